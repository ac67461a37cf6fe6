import PyProof.Rows.All
import Wide.All
import OpenK.AllK
import Wide.FinOn
import HandS.ForMost
import HandS.Wide
import HandS.Deep
import HandS.Flow
import HandS.IsInst
import HandS.Replace
import HandS.TupAny
import KE.SortData
import HandS.EndBits
import PySem.Challenge.RW_walktold_k58_two_way_readers_looked_at
set_option Elab.async false
set_option linter.all false
set_option maxRecDepth 100000
set_option maxHeartbeats 1000000
/-! Dn: a typed reading of the text. Part 1: types, what stands for what, slots, the state's word. -/
namespace Dn
open PySem PySem.Spec PyProof.Rows L2

/-! ### types -/
inductive Ty where
  | int | bool | str | non | scr
  | opt (t : Ty) | lst (t : Ty) | tup (t : Ty)
  | p2 (a b : Ty) | p3 (a b c : Ty) | p4 (a b c d : Ty) | p5 (a b c d e : Ty)
@[reducible] def Ty.den : Ty → Type
  | .int => Int
  | .bool => Bool
  | .str => List Nat
  | .non => Unit
  | .scr => List Int
  | .opt t => Option t.den
  | .lst t => List t.den
  | .tup t => List t.den
  | .p2 a b => a.den × b.den
  | .p3 a b c => a.den × b.den × c.den
  | .p4 a b c d => a.den × b.den × c.den × d.den
  | .p5 a b c d e => a.den × b.den × c.den × d.den × e.den
def vS (x : List Nat) : V := .str ⟨x.toArray⟩
theorem vS_inj {x y : List Nat} (h : vS x = vS y) : x = y := by
  unfold vS at h
  injection h with h
  injection h with h
  exact List.toArray_inj h

section
variable (K : PySem.W.Frag)
def Rep : (t : Ty) → Hp → V → t.den → Prop
  | .int, _, v, x => v = .int x
  | .bool, _, v, x => v = .bl x
  | .str, _, v, x => v = vS x
  | .non, _, v, _ => v = .non
  | .scr, G, v, x => ∃ a, v = .ref a ∧ SqL K G a (List.map V.int x)
  | .opt t, G, v, x => match x with
    | none => v = .non
    | some y => v ≠ .non ∧ Rep t G v y
  | .lst t, G, v, x => ∃ a vs, v = .ref a ∧ Rd G a (.lst vs) ∧ Paired (fun u y => Rep t G u y) vs x
  | .tup t, G, v, x => ∃ a vs, v = .ref a ∧ SqT K G a vs ∧ Paired (fun u y => Rep t G u y) vs x
  | .p2 a b, G, v, x => ∃ p v1 v2, v = .ref p ∧ SqT K G p [v1, v2] ∧ Rep a G v1 x.1 ∧ Rep b G v2 x.2
  | .p3 a b c, G, v, x => ∃ p v1 v2 v3, v = .ref p ∧ SqT K G p [v1, v2, v3] ∧ Rep a G v1 x.1 ∧ Rep b G v2 x.2.1 ∧ Rep c G v3 x.2.2
  | .p4 a b c d, G, v, x => ∃ p v1 v2 v3 v4, v = .ref p ∧ SqT K G p [v1, v2, v3, v4] ∧ Rep a G v1 x.1 ∧ Rep b G v2 x.2.1 ∧ Rep c G v3 x.2.2.1 ∧ Rep d G v4 x.2.2.2
  | .p5 a b c d e, G, v, x => ∃ p v1 v2 v3 v4 v5, v = .ref p ∧ SqT K G p [v1, v2, v3, v4, v5] ∧ Rep a G v1 x.1 ∧ Rep b G v2 x.2.1 ∧ Rep c G v3 x.2.2.1 ∧ Rep d G v4 x.2.2.2.1 ∧ Rep e G v5 x.2.2.2.2
end
section
variable {K : PySem.W.Frag}
theorem pm {α β : Type} {F F' : α → β → Prop} {l : List α} {m : List β} (h : Paired F l m) (f : ∀ a b, F a b → F' a b) : Paired F' l m := by
  induction h with
  | nil => exact .nil
  | cons r _ ih => exact .cons (f _ _ r) ih
theorem rd_mono {G G' : Hp} {a : Addr} {u : HO} (e : Same G G') (h : Rd G a u) : Rd G' a u := by
  rcases h with h | ⟨o, h⟩
  · exact .inl (e _ _ h)
  · exact .inr ⟨o, e _ _ h⟩
theorem sqt_mono {G G' : Hp} {a : Addr} {xs : List V} (e : Same G G') (h : SqT K G a xs) : SqT K G' a xs := by
  rcases h with (h | ⟨o, h⟩) | h
  · exact .inl (.inl (e _ _ h))
  · exact .inl (.inr ⟨o, e _ _ h⟩)
  · exact .inr h
theorem sql_mono {G G' : Hp} {a : Addr} {xs : List V} (e : Same G G') (h : SqL K G a xs) : SqL K G' a xs := by
  rcases h with (h | ⟨o, h⟩) | h
  · exact .inl (.inl (e _ _ h))
  · exact .inl (.inr ⟨o, e _ _ h⟩)
  · exact .inr h
theorem rep_mono {G G' : Hp} (e : Same G G') : ∀ (t : Ty) (v : V) (x : t.den), Rep K t G v x → Rep K t G' v x
  | .int, _, _, h => h
  | .bool, _, _, h => h
  | .str, _, _, h => h
  | .non, _, _, h => h
  | .scr, _, _, ⟨a, h1, h2⟩ => ⟨a, h1, sql_mono e h2⟩
  | .opt t, v, none, h => h
  | .opt t, v, some y, h => ⟨h.1, rep_mono e t v y h.2⟩
  | .lst t, _, _, ⟨a, vs, h1, h2, h3⟩ => ⟨a, vs, h1, rd_mono e h2, pm h3 fun u y q => rep_mono e t u y q⟩
  | .tup t, _, _, ⟨a, vs, h1, h2, h3⟩ => ⟨a, vs, h1, sqt_mono e h2, pm h3 fun u y q => rep_mono e t u y q⟩
  | .p2 a b, _, _, ⟨p, v1, v2, h0, h1, h2, h3⟩ => ⟨p, v1, v2, h0, sqt_mono e h1, rep_mono e a _ _ h2, rep_mono e b _ _ h3⟩
  | .p3 a b c, _, _, ⟨p, v1, v2, v3, h0, h1, h2, h3, h4⟩ => ⟨p, v1, v2, v3, h0, sqt_mono e h1, rep_mono e a _ _ h2, rep_mono e b _ _ h3, rep_mono e c _ _ h4⟩
  | .p4 a b c d, _, _, ⟨p, v1, v2, v3, v4, h0, h1, h2, h3, h4, h5⟩ => ⟨p, v1, v2, v3, v4, h0, sqt_mono e h1, rep_mono e a _ _ h2, rep_mono e b _ _ h3, rep_mono e c _ _ h4, rep_mono e d _ _ h5⟩
  | .p5 a b c d f, _, _, ⟨p, v1, v2, v3, v4, v5, h0, h1, h2, h3, h4, h5, h6⟩ => ⟨p, v1, v2, v3, v4, v5, h0, sqt_mono e h1, rep_mono e a _ _ h2, rep_mono e b _ _ h3, rep_mono e c _ _ h4, rep_mono e d _ _ h5, rep_mono e f _ _ h6⟩
end
abbrev RepL (K : PySem.W.Frag) (t : Ty) (G : Hp) : List V → List t.den → Prop := Paired (fun u y => Rep K t G u y)
theorem repL_mono {K : PySem.W.Frag} {G G' : Hp} (e : Same G G') {t : Ty} {vs : List V} {xs : List t.den} (h : RepL K t G vs xs) : RepL K t G' vs xs := pm h fun u y q => rep_mono e t u y q
theorem pair_len {α β : Type} {F : α → β → Prop} {l : List α} {m : List β} (h : Paired F l m) : l.length = m.length := by
  induction h with
  | nil => rfl
  | cons _ _ ih => simp [ih]
theorem pair_get {α β : Type} {F : α → β → Prop} : ∀ {l : List α} {m : List β} {i : Nat} {y : β}, Paired F l m → m[i]? = some y → ∃ x, l[i]? = some x ∧ F x y
  | _, _, _, _, .nil, e => by simp at e
  | _, _, 0, _, .cons r _, e => by simp at e; subst e; exact ⟨_, rfl, r⟩
  | _, _, i + 1, y, .cons _ t, e => by
    obtain ⟨x, h1, h2⟩ := pair_get (i := i) (y := y) t (by simpa using e)
    exact ⟨x, by simpa using h1, h2⟩
theorem pair_getL {α β : Type} {F : α → β → Prop} : ∀ {l : List α} {m : List β} {i : Nat} {x : α}, Paired F l m → l[i]? = some x → ∃ y, m[i]? = some y ∧ F x y
  | _, _, _, _, .nil, e => by simp at e
  | _, _, 0, _, .cons r _, e => by simp at e; subst e; exact ⟨_, rfl, r⟩
  | _, _, i + 1, y, .cons _ t, e => by
    obtain ⟨x, h1, h2⟩ := pair_getL (i := i) (x := y) t (by simpa using e)
    exact ⟨x, by simpa using h1, h2⟩
theorem pair_app {α β : Type} {F : α → β → Prop} : ∀ {l l' : List α} {m m' : List β}, Paired F l m → Paired F l' m' → Paired F (l ++ l') (m ++ m')
  | _, _, _, _, .nil, s => s
  | _, _, _, _, .cons r t, s => .cons r (pair_app t s)
theorem pair_take {α β : Type} {F : α → β → Prop} : ∀ {l : List α} {m : List β} (n : Nat), Paired F l m → Paired F (l.take n) (m.take n)
  | _, _, 0, _ => .nil
  | _, _, _ + 1, .nil => .nil
  | _, _, n + 1, .cons r t => .cons r (pair_take n t)
theorem pair_drop {α β : Type} {F : α → β → Prop} : ∀ {l : List α} {m : List β} (n : Nat), Paired F l m → Paired F (l.drop n) (m.drop n)
  | _, _, 0, r => r
  | _, _, _ + 1, .nil => .nil
  | _, _, n + 1, .cons _ t => pair_drop n t
theorem pair_set {α β : Type} {F : α → β → Prop} {x : α} {y : β} (r : F x y) : ∀ {l : List α} {m : List β} (i : Nat), Paired F l m → Paired F (l.set i x) (m.set i y)
  | _, _, _, .nil => .nil
  | _, _, 0, .cons _ t => .cons r t
  | _, _, i + 1, .cons q t => .cons q (pair_set r i t)
theorem pair_erase {α β : Type} {F : α → β → Prop} : ∀ {l : List α} {m : List β} (i : Nat), Paired F l m → Paired F (l.eraseIdx i) (m.eraseIdx i)
  | _, _, _, .nil => .nil
  | _, _, 0, .cons _ t => t
  | _, _, i + 1, .cons q t => .cons q (pair_erase i t)
theorem pair_rev {α β : Type} {F : α → β → Prop} {l : List α} {m : List β} (h : Paired F l m) : Paired F l.reverse m.reverse := by
  induction h with
  | nil => exact .nil
  | cons r _ ih => rw [List.reverse_cons, List.reverse_cons]; exact pair_app ih (.cons r .nil)

/-! ### slots -/
/-- what is owned: a list, alone at its place -/
inductive Own where
  | lst (t : Ty) (xs : List t.den)
inductive Slot where
  | un
  | fr (t : Ty) (x : t.den)
  | ow (pin : Bool) (o : Own)
def Slot.isPin : Slot → Bool
  | .ow true _ => true
  | _ => false
def Slot.isOw : Slot → Bool
  | .ow _ _ => true
  | _ => false
def OwnOk (K : PySem.W.Frag) (G : Hp) (h : HO) : Own → Prop
  | .lst t xs => ∃ vs, h = .lst vs ∧ RepL K t G vs xs
theorem own_mono {K : PySem.W.Frag} {G G' : Hp} (e : Same G G') {h : HO} : ∀ {o : Own}, OwnOk K G h o → OwnOk K G' h o
  | .lst _ _, ⟨vs, h1, h2⟩ => ⟨vs, h1, repL_mono e h2⟩
/-- the fixed part: cells that stay, the box's address -/
structure Fx where
  T : Hp
  b : Addr
def SlotOk (K : PySem.W.Frag) (F : Fx) (G H : Hp) (s : Option (Option V)) : Slot → Prop
  | .un => True
  | .fr t x => ∃ v, s = some (some v) ∧ Rep K t G v x
  | .ow pin o => ∃ p ho, s = some (some (.ref p)) ∧ G p = none ∧ F.T p = none ∧ H p = some ho ∧ OwnOk K G ho o ∧ (pin = true → p = F.b)
structure Wd (K : PySem.W.Frag) (F : Fx) (G : Hp) (σ : L2.St) (H : Hp) (Γ : List Slot) : Prop where
  len : σ.length = Γ.length
  gh : Same G H
  th : Same F.T H
  tg : ∀ b o, F.T b = some o → G b = none
  sl : ∀ (i : Nat) (s : Slot), Γ[i]? = some s → SlotOk K F G H (σ[i]?) s
  dj : ∀ (i j : Nat) (s s' : Slot) (p : Addr), i ≠ j → Γ[i]? = some s → s.isOw = true → Γ[j]? = some s' → s'.isOw = true → σ[i]? = some (some (.ref p)) → σ[j]? = some (some (.ref p)) → False

/-! ### judgements -/
def WPE (X : Cx) (e : Expr) : TE := fun σ H Q => ∀ (pins : List (Addr × Obj)) (s : Shared), Inv X pins σ H s → wpAny (model X.prog X.w) X.A (eval e X.env) (EP X pins σ Q) X.xe s
def WPT (X : Cx) (e : Expr) : TT := fun σ H Q => ∀ (pins : List (Addr × Obj)) (s : Shared), Inv X pins σ H s → wpAny (model X.prog X.w) X.A (isTrue e X.env (eval e X.env)) (TP X pins σ Q) X.xe s
def WPW (X : Cx) (e : Expr) : TT := fun σ H Q => ∀ (wh : Sem Value) (pins : List (Addr × Obj)) (s : Shared), Inv X pins σ H s → wpAny (model X.prog X.w) X.A (isTrue e X.env wh) (TP X pins σ Q) X.xe s
def WPA (X : Cx) (es : List Expr) : TA := fun σ H Q => ∀ (pos : Pos) (pins : List (Addr × Obj)) (s : Shared), Inv X pins σ H s → wpAny (model X.prog X.w) X.A (spliced (backTo pos (starEach es X.env))) (AP X pins σ Q) X.xe s
def WPS (X : Cx) (st : Stmt) : TS := fun D σ H => ∀ (pins : List (Addr × Obj)) (s : Shared), Inv X pins σ H s → wpAny (model X.prog X.w) X.A (exec st X.env) (SP X pins D) X.xe s
def WPSs (X : Cx) (st : List Stmt) : TS := fun D σ H => ∀ (pins : List (Addr × Obj)) (s : Shared), Inv X pins σ H s → wpAny (model X.prog X.w) X.A (execs st X.env) (SP X pins D) X.xe s
def WPO (X : Cx) (e : Option Expr) : TO := fun σ H Q => ∀ t, PO X e t → t σ H Q → True
section
variable {X : Cx}
theorem pe_wp {e : Expr} : PE X e (WPE X e) := ⟨fun pins s σ H Q I h => h pins s I⟩
theorem pt_wp {e : Expr} : PT X e (WPT X e) := ⟨fun pins s σ H Q I h => h pins s I⟩
theorem pw_wp {e : Expr} : PW X e (WPW X e) := ⟨fun wh pins s σ H Q I h => h wh pins s I⟩
theorem pa_wp {es : List Expr} : PA X es (WPA X es) := ⟨fun pos pins s σ H Q I h => h pos pins s I⟩
theorem ps_wp {st : Stmt} : PS X st (WPS X st) := ⟨fun pins s σ H D I h => h pins s I⟩
theorem pss_wp {st : List Stmt} : PSs X st (WPSs X st) := ⟨fun pins s σ H D I h => h pins s I⟩
theorem wpe_of {e : Expr} {t : TE} {σ : L2.St} {H : Hp} {Q : VK} (p : PE X e t) (h : t σ H Q) : WPE X e σ H Q := fun pins s I => p.run pins s σ H Q I h
theorem wpt_of {e : Expr} {t : TT} {σ : L2.St} {H : Hp} {Q : Bool → Hp → Prop} (p : PT X e t) (h : t σ H Q) : WPT X e σ H Q := fun pins s I => p.run pins s σ H Q I h
theorem wpw_of {e : Expr} {t : TT} {σ : L2.St} {H : Hp} {Q : Bool → Hp → Prop} (p : PW X e t) (h : t σ H Q) : WPW X e σ H Q := fun wh pins s I => p.run wh pins s σ H Q I h
theorem wpa_of {es : List Expr} {t : TA} {σ : L2.St} {H : Hp} {Q : List V → Hp → Prop} (p : PA X es t) (h : t σ H Q) : WPA X es σ H Q := fun pos pins s I => p.run pos pins s σ H Q I h
theorem wps_of {st : Stmt} {t : TS} {σ : L2.St} {H : Hp} {D : Ends} (p : PS X st t) (h : t D σ H) : WPS X st D σ H := fun pins s I => p.run pins s σ H D I h
theorem wpss_of {st : List Stmt} {t : TS} {σ : L2.St} {H : Hp} {D : Ends} (p : PSs X st t) (h : t D σ H) : WPSs X st D σ H := fun pins s I => p.run pins s σ H D I h
end

/-- te gives x of type t, leaving Γ' -/
def Ev (K : PySem.W.Frag) (te : TE) (Γ : List Slot) (t : Ty) (x : t.den) (Γ' : List Slot) : Prop :=
  ∀ (F : Fx) (G : Hp) (σ : L2.St) (H : Hp), Wd K F G σ H Γ → ∀ Q : VK, (∀ v G' H', Same G G' → Wd K F G' σ H' Γ' → Rep K t G' v x → Q v H') → te σ H Q
/-- te gives a thing of its own at a new place -/
def EvO (K : PySem.W.Frag) (te : TE) (Γ : List Slot) (o : Own) (Γ' : List Slot) : Prop :=
  ∀ (F : Fx) (G : Hp) (σ : L2.St) (H : Hp), Wd K F G σ H Γ → ∀ Q : VK, (∀ p ho G' H', Same G G' → Wd K { F with T := upd F.T p ho } G' σ H' Γ' → F.T p = none → OwnOk K G' ho o → Q (.ref p) H') → te σ H Q
def EvT (K : PySem.W.Frag) (tt : TT) (Γ : List Slot) (b : Bool) (Γ' : List Slot) : Prop :=
  ∀ (F : Fx) (G : Hp) (σ : L2.St) (H : Hp), Wd K F G σ H Γ → ∀ Q : Bool → Hp → Prop, (∀ G' H', Same G G' → Wd K F G' σ H' Γ' → Q b H') → tt σ H Q
abbrev DE (X : Cx) (e : Expr) (Γ : List Slot) (t : Ty) (x : t.den) (Γ' : List Slot) : Prop := Ev X.K (WPE X e) Γ t x Γ'
abbrev DO (X : Cx) (e : Expr) (Γ : List Slot) (o : Own) (Γ' : List Slot) : Prop := EvO X.K (WPE X e) Γ o Γ'
abbrev DT (X : Cx) (e : Expr) (Γ : List Slot) (b : Bool) (Γ' : List Slot) : Prop := EvT X.K (WPT X e) Γ b Γ'
abbrev DW (X : Cx) (e : Expr) (Γ : List Slot) (b : Bool) (Γ' : List Slot) : Prop := EvT X.K (WPW X e) Γ b Γ'
end Dn

set_option Elab.async false
set_option linter.all false
set_option maxRecDepth 100000
set_option maxHeartbeats 1000000
/-! Dn, part 2: expressions. -/
namespace Dn
open PySem PySem.Spec PyProof.Rows L2 TL

theorem same_upd {H : Hp} {p : Addr} {o : HO} (h : H p = none) : Same H (upd H p o) := fun b x e => by
  rw [upd_ne (ne_of_none e h)]
  exact e
section
variable {K : PySem.W.Frag} {F : Fx} {G G' H : Hp} {σ : L2.St} {Γ : List Slot} {p : Addr} {ho : HO}
theorem slot_of {Γ : List Slot} {i : Nat} {s : Slot} (W : Wd K F G σ H Γ) (h : Γ[i]? = some s) : SlotOk K F G H (σ[i]?) s := W.sl i s h
theorem Wd.gn (W : Wd K F G σ H Γ) (h : H p = none) : G p = none := W.gh.free h
theorem Wd.tn (W : Wd K F G σ H Γ) (h : H p = none) : F.T p = none := W.th.free h
/-- a new object, held aside -/
theorem Wd.new (W : Wd K F G σ H Γ) (h : H p = none) : Wd K { F with T := upd F.T p ho } G σ (upd H p ho) Γ where
  len := W.len
  gh := W.gh.trans (same_upd h)
  th := fun b o e => by
    change upd F.T p ho b = some o at e
    by_cases hb : b = p
    · subst hb; rw [upd_same] at e ⊢; exact e
    · rw [upd_ne hb] at e ⊢; exact W.th b o e
  tg := fun b o e => by
    change upd F.T p ho b = some o at e
    by_cases hb : b = p
    · subst hb; exact W.gn h
    · rw [upd_ne hb] at e; exact W.tg b o e
  sl := fun i s e => by
    have q := W.sl i s e
    cases s with
    | un => exact q
    | fr t x => exact q
    | ow pin o =>
      obtain ⟨a, ho', h1, h2, h3, h4, h5, h6⟩ := q
      have ne : a ≠ p := ne_of_none h4 h
      exact ⟨a, ho', h1, h2, (by show upd F.T p ho a = none; rw [upd_ne ne]; exact h3), by rw [upd_ne ne]; exact h4, h5, h6⟩
  dj := W.dj
/-- what is held aside is let go frozen -/
theorem Wd.freeze (W : Wd K { F with T := upd F.T p ho } G σ H Γ) (hT : F.T p = none) : Wd K F (upd G p ho) σ H Γ where
  len := W.len
  gh := fun b o e => by
    by_cases hb : b = p
    · subst hb; rw [upd_same] at e; exact W.th b o (by show upd F.T b ho b = _; rw [upd_same]; exact e)
    · rw [upd_ne hb] at e; exact W.gh b o e
  th := fun b o e => W.th b o (by show upd F.T p ho b = _; rw [upd_ne (ne_of_none e hT)]; exact e)
  tg := fun b o e => by
    have hb : b ≠ p := ne_of_none e hT
    rw [upd_ne hb]; exact W.tg b o (by show upd F.T p ho b = _; rw [upd_ne hb]; exact e)
  sl := fun i s e => by
    have q := W.sl i s e
    have gp : G p = none := W.tg p ho (by show upd F.T p ho p = _; rw [upd_same])
    have sm : Same G (upd G p ho) := same_upd gp
    cases s with
    | un => exact q
    | fr t x => obtain ⟨v, h1, h2⟩ := q; exact ⟨v, h1, rep_mono sm t v x h2⟩
    | ow pin o =>
      obtain ⟨a, ho', h1, h2, h3, h4, h5, h6⟩ := q
      have h3' : upd F.T p ho a = none := h3
      have ne : a ≠ p := fun z => by subst z; rw [upd_same] at h3'; cases h3'
      rw [upd_ne ne] at h3'
      exact ⟨a, ho', h1, by rw [upd_ne ne]; exact h2, h3', h4, own_mono sm h5, h6⟩
  dj := W.dj
theorem Wd.held (W : Wd K { F with T := upd F.T p ho } G σ H Γ) : H p = some ho ∧ G p = none := by
  have e : upd F.T p ho p = some ho := upd_same
  exact ⟨W.th p ho e, W.tg p ho e⟩
/-- .. or forgotten -/
theorem Wd.drop (W : Wd K { F with T := upd F.T p ho } G σ H Γ) (hT : F.T p = none) : Wd K F G σ H Γ where
  len := W.len
  gh := W.gh
  th := fun b o e => W.th b o (by show upd F.T p ho b = _; rw [upd_ne (ne_of_none e hT)]; exact e)
  tg := fun b o e => W.tg b o (by show upd F.T p ho b = _; rw [upd_ne (ne_of_none e hT)]; exact e)
  sl := fun i s e => by
    have q := W.sl i s e
    cases s with
    | un => exact q
    | fr t x => exact q
    | ow pin o =>
      obtain ⟨a, ho', h1, h2, h3, h4, h5, h6⟩ := q
      have h3' : upd F.T p ho a = none := h3
      have ne : a ≠ p := fun z => by subst z; rw [upd_same] at h3'; cases h3'
      rw [upd_ne ne] at h3'
      exact ⟨a, ho', h1, h2, h3', h4, h5, h6⟩
  dj := W.dj
/-- a new object at once frozen -/
theorem Wd.newG (W : Wd K F G σ H Γ) (h : H p = none) : Wd K F (upd G p ho) σ (upd H p ho) Γ := (W.new h).freeze (W.tn h)
theorem own_rep {t : Ty} {xs : List t.den} (W : Wd K { F with T := upd F.T p ho } G σ H Γ) (o : OwnOk K G ho (.lst t xs)) : Rep K (.lst t) (upd G p ho) (.ref p) xs := by
  obtain ⟨vs, rfl, r⟩ := o
  exact ⟨p, vs, rfl, .inl upd_same, repL_mono (same_upd W.held.2) r⟩
end

section
variable {K : PySem.W.Frag} {ta tb tc te : TE} {Γ Γ1 Γ2 Γ3 : List Slot} {t u τ : Ty} {x : t.den} {y : u.den} {c : τ.den}
theorem ev_frz {o : List t.den} (h : EvO K te Γ (.lst t o) Γ1) : Ev K te Γ (.lst t) o Γ1 := fun F G σ H W Q q =>
  h F G σ H W Q fun p ho G' H' sg W' hT ok => q (.ref p) (upd G' p ho) H' (sg.trans (same_upd W'.held.2)) (W'.freeze hT) (own_rep W' ok)
/-- two operands, an operation that makes nothing -/
theorem ev_op {r : R2} (ha : Ev K ta Γ t x Γ1) (hb : Ev K tb Γ1 u y Γ2)
    (hr : ∀ (G H : Hp) (v w : V) (Q : VK), Same G H → Rep K t G v x → Rep K u G w y → (∀ z, Rep K τ G z c → Q z H) → r v w H Q) : Ev K (tOp r ta tb) Γ τ c Γ2 := fun F G σ H W Q q =>
  ha F G σ H W _ fun v G1 H1 s1 W1 r1 => hb F G1 σ H1 W1 _ fun w G2 H2 s2 W2 r2 =>
    hr G2 H2 v w Q W2.gh (rep_mono s2 t v x r1) r2 fun z rz => q z G2 H2 (s1.trans s2) W2 rz
theorem ev_un {r : V → Hp → VK → Prop} (ha : Ev K ta Γ t x Γ1)
    (hr : ∀ (G H : Hp) (v : V) (Q : VK), Same G H → Rep K t G v x → (∀ z, Rep K τ G z c → Q z H) → r v H Q) : Ev K (tUn r ta) Γ τ c Γ1 := fun F G σ H W Q q =>
  ha F G σ H W _ fun v G1 H1 s1 W1 r1 => hr G1 H1 v Q W1.gh r1 fun z rz => q z G1 H1 s1 W1 rz
/-- two operands, an operation that makes a thing -/
theorem ev_opO {r : R2} {o : Own} (ha : Ev K ta Γ t x Γ1) (hb : Ev K tb Γ1 u y Γ2)
    (hr : ∀ (G H : Hp) (v w : V) (Q : VK), Same G H → Rep K t G v x → Rep K u G w y → (∀ p ho, H p = none → OwnOk K G ho o → Q (.ref p) (upd H p ho)) → r v w H Q) : EvO K (tOp r ta tb) Γ o Γ2 := fun F G σ H W Q q =>
  ha F G σ H W _ fun v G1 H1 s1 W1 r1 => hb F G1 σ H1 W1 _ fun w G2 H2 s2 W2 r2 =>
    hr G2 H2 v w Q W2.gh (rep_mono s2 t v x r1) r2 fun p ho hp ok => q p ho G2 (upd H2 p ho) (s1.trans s2) (W2.new hp) (W2.tn hp) ok
theorem ev_c {v : V} (h : ∀ G, Rep K τ G v c) : Ev K (tC v) Γ τ c Γ := fun F G σ H W Q q => q v G H (Same.refl G) W (h G)
theorem ev_var {i : Nat} {x : t.den} (h : Γ[i]? = some (.fr t x)) : Ev K (tVar i) Γ t x Γ := fun F G σ H W Q q => by
  obtain ⟨v, h1, h2⟩ := W.sl i _ h
  exact ⟨v, h1, q v G H (Same.refl G) W h2⟩
end

/-- sizes that are let by -/
def Sz (n : Nat) : Prop := n ≤ 100000
theorem Sz.le {n : Nat} (h : Sz n) : n ≤ sizeLine := Nat.le_trans h (by decide)
theorem Sz.lt {n : Nat} (h : Sz n) : n < sizeLine := Nat.lt_of_le_of_lt h (by decide)
/-- an int's size, for * -/
def MulOk (i j : Int) : Prop := i.natAbs.log2 + j.natAbs.log2 < 1000000
def DivOk (j : Int) : Prop := 0 < j ∧ j.natAbs.log2 < 9000
theorem len_mk (x : List Nat) : (⟨x.toArray⟩ : Str).length = x.length := by simp [Str.length]
theorem mk_tl (x : List Nat) : tl (⟨x.toArray⟩ : Str) = x := rfl

section
variable {X : Cx} {a b e : Expr} {pos : Pos} {Γ Γ1 Γ2 Γ3 : List Slot}
/-! ### names, constants -/
theorem de_var (i : Nat) {t : Ty} {x : t.den} {n : Str} (h : Γ[i]? = some (.fr t x) := by rfl) (hN : X.N[i]? = some n := by rfl) (hv : Vis X.env.scope n := by first | exact Or.inl rfl | exact Or.inr (Or.inl rfl) | exact Or.inr (Or.inr rfl))
    (hd : (n == ("__debug__" : Str)) = false := by decide) (hcd : (n == ("__classdict__" : Str)) = false := by decide) : DE X (.Name n pos) Γ t x Γ := fun F G σ H W Q q =>
  wpe_of (pe_var hN hv hd hcd) (ev_var h F G σ H W Q q)
theorem de_int {i : Int} {j} : DE X (.Constant (.int i) j pos) Γ .int i Γ := fun F G σ H W Q q => wpe_of pe_int (ev_c (K := X.K) (τ := .int) (c := i) (fun _ => rfl) F G σ H W Q q)
theorem de_bool {i : Bool} {j} : DE X (.Constant (.bool i) j pos) Γ .bool i Γ := fun F G σ H W Q q => wpe_of pe_bl (ev_c (K := X.K) (τ := .bool) (c := i) (fun _ => rfl) F G σ H W Q q)
theorem de_non {j} : DE X (.Constant .none j pos) Γ .non () Γ := fun F G σ H W Q q => wpe_of pe_non (ev_c (K := X.K) (τ := .non) (c := ()) (fun _ => rfl) F G σ H W Q q)
theorem de_str (l : List Nat) {x : Str} {j} (h : x = ⟨l.toArray⟩ := by decide +kernel) : DE X (.Constant (.str x) j pos) Γ .str l Γ := fun F G σ H W Q q => wpe_of pe_str (ev_c (K := X.K) (τ := .str) (c := l) (fun _ => by subst h; rfl) F G σ H W Q q)
theorem de_frz {t : Ty} {o : List t.den} (h : DO X e Γ (.lst t o) Γ1) : DE X e Γ (.lst t) o Γ1 := ev_frz h
theorem de_some {t : Ty} {x : t.den} (h : DE X e Γ t x Γ1) (hn : ∀ G v, Rep X.K t G v x → v ≠ .non) : DE X e Γ (.opt t) (some x) Γ1 := fun F G σ H W Q q =>
  h F G σ H W Q fun v G' H' s W' r => q v G' H' s W' ⟨hn G' v r, r⟩
theorem de_none (t : Ty) {j} : DE X (.Constant .none j pos) Γ (.opt t) none Γ := fun F G σ H W Q q => wpe_of pe_non (ev_c (K := X.K) (τ := .opt t) (c := none) (fun _ => rfl) F G σ H W Q q)
/-- a constant of the module that is an int, a text -/
theorem de_glob {n : Str} {v : V} {u : Value} {t : Ty} {x : t.den} (hm : X.mg n = some u) (r : RelV v u) (hx : ∀ G, Rep X.K t G v x) (hg : Gl X n := by rfl) (hd : (n == ("__debug__" : Str)) = false := by decide) : DE X (.Name n pos) Γ t x Γ := fun F G σ H W Q q =>
  wpe_of (pe_glob hg hm r hd) (ev_c (K := X.K) (τ := t) (c := x) hx F G σ H W Q q)

/-! ### ints -/
theorem de_add {i j : Int} (ha : DE X a Γ .int i Γ1) (hb : DE X b Γ1 .int j Γ2) : DE X (.BinOp a .Add b pos) Γ .int (i + j) Γ2 := fun F G σ H W Q q =>
  wpe_of (pe_op op_add pe_wp pe_wp) (ev_op (τ := .int) (c := i + j) ha hb (fun G H v w Q _ r1 r2 q => ⟨i, j, r1, r2, q _ rfl⟩) F G σ H W Q q)
theorem de_sub {i j : Int} (ha : DE X a Γ .int i Γ1) (hb : DE X b Γ1 .int j Γ2) : DE X (.BinOp a .Sub b pos) Γ .int (i - j) Γ2 := fun F G σ H W Q q =>
  wpe_of (pe_op op_sub pe_wp pe_wp) (ev_op (τ := .int) (c := i - j) ha hb (fun G H v w Q _ r1 r2 q => ⟨i, j, r1, r2, q _ rfl⟩) F G σ H W Q q)
theorem de_mul {i j : Int} (h : MulOk i j) (ha : DE X a Γ .int i Γ1) (hb : DE X b Γ1 .int j Γ2) : DE X (.BinOp a .Mult b pos) Γ .int (i * j) Γ2 := fun F G σ H W Q q =>
  wpe_of (pe_op op_mulW pe_wp pe_wp) (ev_op (τ := .int) (c := i * j) ha hb (fun G H v w Q _ r1 r2 q => ⟨i, j, r1, r2, h, q _ rfl⟩) F G σ H W Q q)
theorem de_fdiv {i j : Int} (h : DivOk j) (ha : DE X a Γ .int i Γ1) (hb : DE X b Γ1 .int j Γ2) : DE X (.BinOp a .FloorDiv b pos) Γ .int (i / j) Γ2 := fun F G σ H W Q q =>
  wpe_of (pe_op op_fdivW pe_wp pe_wp) (ev_op (τ := .int) (c := i / j) ha hb (fun G H v w Q _ r1 r2 q => ⟨i, j, r1, r2, h, q _ rfl⟩) F G σ H W Q q)
theorem de_mod {i j : Int} (h : 0 < j) (ha : DE X a Γ .int i Γ1) (hb : DE X b Γ1 .int j Γ2) : DE X (.BinOp a .Mod b pos) Γ .int (i % j) Γ2 := fun F G σ H W Q q =>
  wpe_of (pe_op op_mod pe_wp pe_wp) (ev_op (τ := .int) (c := i % j) ha hb (fun G H v w Q _ r1 r2 q => ⟨i, j, r1, r2, h, q _ rfl⟩) F G σ H W Q q)
theorem de_pow {i j : Int} (h : CPow i j) (ha : DE X a Γ .int i Γ1) (hb : DE X b Γ1 .int j Γ2) : DE X (.BinOp a .Pow b pos) Γ .int (i ^ j.toNat) Γ2 := fun F G σ H W Q q =>
  wpe_of (pe_op op_pow pe_wp pe_wp) (ev_op (τ := .int) (c := i ^ j.toNat) ha hb (fun G H v w Q _ r1 r2 q => ⟨i, j, r1, r2, h, q _ rfl⟩) F G σ H W Q q)
theorem de_neg {i : Int} (ha : DE X a Γ .int i Γ1) : DE X (.UnaryOp .USub a pos) Γ .int (-i) Γ1 := fun F G σ H W Q q =>
  wpe_of (pe_un un_neg pe_wp) (ev_un (τ := .int) (c := -i) ha (fun G H v Q _ r1 q => ⟨i, r1, q _ rfl⟩) F G σ H W Q q)

/-! ### texts -/
theorem de_cat {i j : List Nat} (h : Sz (i.length + j.length)) (ha : DE X a Γ .str i Γ1) (hb : DE X b Γ1 .str j Γ2) : DE X (.BinOp a .Add b pos) Γ .str (i ++ j) Γ2 := fun F G σ H W Q q =>
  wpe_of (pe_op op_add_str pe_wp pe_wp) (ev_op (τ := .str) (c := i ++ j) ha hb (fun G H v w Q _ r1 r2 q => ⟨⟨i.toArray⟩, ⟨j.toArray⟩, r1, r2, by rw [len_mk, len_mk]; exact h.le, q _ (by
    show V.str _ = V.str _
    congr 1
    exact ext_tl (tl_append _ _))⟩) F G σ H W Q q)

/-! ### comparisons -/
def WPC (X : Cx) (op : CmpOp) (a b : Expr) : TE := fun σ H Q => ∀ (pins : List (Addr × Obj)) (s : Shared), Inv X pins σ H s →
    wpAny (model X.prog X.w) X.A (eval a X.env) (fun v s₁ => wpAny (model X.prog X.w) X.A (eval b X.env) (fun u s₂ => wpAny (model X.prog X.w) X.A (compareOp op v u) (EP X pins σ Q) X.xe s₂) X.xe s₁) X.xe s
abbrev DC (X : Cx) (op : CmpOp) (a b : Expr) (Γ : List Slot) (c : Bool) (Γ' : List Slot) : Prop := Ev X.K (WPC X op a b) Γ .bool c Γ'
theorem pc_wp {op : CmpOp} : PC X op a b (WPC X op a b) := ⟨fun pins s σ H Q I h => h pins s I⟩
theorem wpc_of {op : CmpOp} {t : TE} {σ : L2.St} {H : Hp} {Q : VK} (p : PC X op a b t) (h : t σ H Q) : WPC X op a b σ H Q := fun pins s I => p.run pins s σ H Q I h
theorem pc_op {op : CmpOp} {r : R2} {ta tb : TE} (ho : OpR X (compareOp op) r) (ha : PE X a ta) (hb : PE X b tb) : PC X op a b (tOp r ta tb) := ⟨fun pins s σ H Q I h =>
  binT ha hb I h fun v u s2 x y H2 I2 rx ry q => ho pins s2 σ H2 x y v u Q I2 rx ry q⟩
theorem de_cmp {op : CmpOp} {c : Bool} (h : DC X op a b Γ c Γ1) (h1 : behindInMarks op b = false := by first | exact nobehind _ (by decide) (by decide) | rfl) : DE X (.Compare a [op] [b] pos) Γ .bool c Γ1 := fun F G σ H W Q q =>
  wpe_of (pe_cmp pc_wp h1) (h F G σ H W Q q)
theorem dt_cmp {op : CmpOp} {c : Bool} (h : DC X op a b Γ c Γ1) (h1 : behindInMarks op b = false := by first | exact nobehind _ (by decide) (by decide) | rfl) : DT X (.Compare a [op] [b] pos) Γ c Γ1 := fun F G σ H W Q q =>
  wpt_of (pt_cmp pc_wp h1) (h F G σ H W _ fun v G' H' s W' r => ⟨c, r, q G' H' s W'⟩)
section
variable {i j : Int}
theorem dc_lt (ha : DE X a Γ .int i Γ1) (hb : DE X b Γ1 .int j Γ2) : DC X .Lt a b Γ (decide (i < j)) Γ2 := fun F G σ H W Q q =>
  wpc_of (pc_op op_lt pe_wp pe_wp) (ev_op (τ := .bool) (c := decide (i < j)) ha hb (fun G H v w Q _ r1 r2 q => ⟨i, j, r1, r2, q _ rfl⟩) F G σ H W Q q)
theorem dc_le (ha : DE X a Γ .int i Γ1) (hb : DE X b Γ1 .int j Γ2) : DC X .LtE a b Γ (decide (i ≤ j)) Γ2 := fun F G σ H W Q q =>
  wpc_of (pc_op op_le pe_wp pe_wp) (ev_op (τ := .bool) (c := decide (i ≤ j)) ha hb (fun G H v w Q _ r1 r2 q => ⟨i, j, r1, r2, q _ rfl⟩) F G σ H W Q q)
theorem dc_gt (ha : DE X a Γ .int i Γ1) (hb : DE X b Γ1 .int j Γ2) : DC X .Gt a b Γ (decide (j < i)) Γ2 := fun F G σ H W Q q =>
  wpc_of (pc_op op_gt pe_wp pe_wp) (ev_op (τ := .bool) (c := decide (j < i)) ha hb (fun G H v w Q _ r1 r2 q => ⟨i, j, r1, r2, q _ rfl⟩) F G σ H W Q q)
theorem dc_ge (ha : DE X a Γ .int i Γ1) (hb : DE X b Γ1 .int j Γ2) : DC X .GtE a b Γ (decide (j ≤ i)) Γ2 := fun F G σ H W Q q =>
  wpc_of (pc_op op_ge pe_wp pe_wp) (ev_op (τ := .bool) (c := decide (j ≤ i)) ha hb (fun G H v w Q _ r1 r2 q => ⟨i, j, r1, r2, q _ rfl⟩) F G σ H W Q q)
end
/-- types whose values are told apart by themselves -/
def Ty.scal : Ty → Bool
  | .int => true | .bool => true | .str => true | _ => false
theorem scal_eq {K : PySem.W.Frag} {t : Ty} {x y : t.den} {G : Hp} {v w : V} [DecidableEq t.den] (hs : t.scal = true) (r1 : Rep K t G v x) (r2 : Rep K t G w y) : scal v w = true ∧ decide (v = w) = decide (x = y) := by
  cases t with
  | int => cases r1; cases r2; exact ⟨rfl, by simp⟩
  | bool => cases r1; cases r2; exact ⟨rfl, by simp⟩
  | str =>
    cases r1; cases r2
    refine ⟨rfl, ?_⟩
    by_cases e : x = y
    · subst e; simp
    · rw [decide_eq_false e, decide_eq_false fun z => e (vS_inj z)]
  | _ => cases hs
theorem dc_eqS {t : Ty} {x y : t.den} [DecidableEq t.den] (ha : DE X a Γ t x Γ1) (hb : DE X b Γ1 t y Γ2) (hs : t.scal = true := by rfl) : DC X .Eq a b Γ (decide (x = y)) Γ2 := fun F G σ H W Q q =>
  wpc_of (pc_op op_eq pe_wp pe_wp) (ev_op (τ := .bool) (c := decide (x = y)) ha hb (fun G H v w Q _ r1 r2 q => by
    obtain ⟨h1, h2⟩ := scal_eq hs r1 r2
    exact ⟨h1, q _ (by rw [h2]; rfl)⟩) F G σ H W Q q)
theorem dc_neS {t : Ty} {x y : t.den} [DecidableEq t.den] (ha : DE X a Γ t x Γ1) (hb : DE X b Γ1 t y Γ2) (hs : t.scal = true := by rfl) : DC X .NotEq a b Γ (!decide (x = y)) Γ2 := fun F G σ H W Q q =>
  wpc_of (pc_op op_ne pe_wp pe_wp) (ev_op (τ := .bool) (c := !decide (x = y)) ha hb (fun G H v w Q _ r1 r2 q => by
    obtain ⟨h1, h2⟩ := scal_eq hs r1 r2
    exact ⟨h1, q _ (by rw [h2]; rfl)⟩) F G σ H W Q q)
/-! ### tests -/
theorem dt_val {c : Bool} (h : DE X e Γ .bool c Γ1) (he : ∀ whole, isTrue e X.env whole = (do let v ← whole; standAt e.pos; holding [v] (truthy v)) := by intro _; rfl) : DT X e Γ c Γ1 := fun F G σ H W Q q =>
  wpt_of (pt_val pe_wp he) (h F G σ H W _ fun v G' H' s W' r => ⟨c, r, q G' H' s W'⟩)
theorem dw_and1 {c : Bool} (h : DT X a Γ c Γ1) : DW X (.BoolOp .And [a] pos) Γ c Γ1 := fun F G σ H W Q q => wpw_of (pw_and1 pt_wp) (h F G σ H W Q q)
theorem dw_or1 {c : Bool} (h : DT X a Γ c Γ1) : DW X (.BoolOp .Or [a] pos) Γ c Γ1 := fun F G σ H W Q q => wpw_of (pw_or1 pt_wp) (h F G σ H W Q q)
theorem dw_and {c d : Bool} {r : List Expr} (h : DT X a Γ c Γ1) (h2 : c = true → DW X (.BoolOp .And (b :: r) pos) Γ1 d Γ2) (h3 : c = false → Γ1 = Γ2) : DW X (.BoolOp .And (a :: b :: r) pos) Γ (c && d) Γ2 := fun F G σ H W Q q =>
  wpw_of (pw_and pt_wp pw_wp) (h F G σ H W _ fun G' H' s W' => by
    cases c with
    | true => exact h2 rfl F G' σ H' W' Q fun G2 H2 s2 W2 => q G2 H2 (s.trans s2) W2
    | false => have e := h3 rfl; subst e; exact q G' H' s W')
theorem dw_or {c d : Bool} {r : List Expr} (h : DT X a Γ c Γ1) (h2 : c = false → DW X (.BoolOp .Or (b :: r) pos) Γ1 d Γ2) (h3 : c = true → Γ1 = Γ2) : DW X (.BoolOp .Or (a :: b :: r) pos) Γ (c || d) Γ2 := fun F G σ H W Q q =>
  wpw_of (pw_or pt_wp pw_wp) (h F G σ H W _ fun G' H' s W' => by
    cases c with
    | false => exact h2 rfl F G' σ H' W' Q fun G2 H2 s2 W2 => q G2 H2 (s.trans s2) W2
    | true => have e := h3 rfl; subst e; exact q G' H' s W')
theorem dt_pw {c : Bool} (h : DW X e Γ c Γ1) : DT X e Γ c Γ1 := fun F G σ H W Q q => wpt_of pw_wp.pt (h F G σ H W Q q)
theorem dt_not {c : Bool} (h : DT X a Γ c Γ1) : DT X (.UnaryOp .Not a pos) Γ (!c) Γ1 := fun F G σ H W Q q => wpt_of (pt_not pt_wp) (h F G σ H W (fun c H' => Q (!c) H') q)
/-! ### .. as values -/
theorem de_one {op} {c : Bool} (h : DE X a Γ .bool c Γ1) : DE X (.BoolOp op [a] pos) Γ .bool c Γ1 := fun F G σ H W Q q => wpe_of (pe_one pe_wp) (h F G σ H W Q q)
theorem de_and {c d : Bool} {r : List Expr} (h : DE X a Γ .bool c Γ1) (h2 : c = true → DE X (.BoolOp .And (b :: r) pos) Γ1 .bool d Γ2) (h3 : c = false → Γ1 = Γ2) : DE X (.BoolOp .And (a :: b :: r) pos) Γ .bool (c && d) Γ2 := fun F G σ H W Q q =>
  wpe_of (pe_and pe_wp pe_wp) (h F G σ H W _ fun v G' H' s W' e => ⟨c, e, by
    cases c with
    | true => exact h2 rfl F G' σ H' W' Q fun v G2 H2 s2 W2 r => q v G2 H2 (s.trans s2) W2 r
    | false => have e := h3 rfl; subst e; exact q _ G' H' s W' rfl⟩)
theorem de_or {c d : Bool} {r : List Expr} (h : DE X a Γ .bool c Γ1) (h2 : c = false → DE X (.BoolOp .Or (b :: r) pos) Γ1 .bool d Γ2) (h3 : c = true → Γ1 = Γ2) : DE X (.BoolOp .Or (a :: b :: r) pos) Γ .bool (c || d) Γ2 := fun F G σ H W Q q =>
  wpe_of (pe_or pe_wp pe_wp) (h F G σ H W _ fun v G' H' s W' e => ⟨c, e, by
    cases c with
    | false => exact h2 rfl F G' σ H' W' Q fun v G2 H2 s2 W2 r => q v G2 H2 (s.trans s2) W2 r
    | true => have e := h3 rfl; subst e; exact q _ G' H' s W' rfl⟩)
theorem de_not {c : Bool} (h : DE X a Γ .bool c Γ1) : DE X (.UnaryOp .Not a pos) Γ .bool (!c) Γ1 := fun F G σ H W Q q => wpe_of (pe_not pe_wp) (h F G σ H W _ fun v G' H' s W' r => ⟨c, r, q _ G' H' s W' rfl⟩)
theorem de_if {t : Ty} {b : Expr} {cx : Expr} {c : Bool} {f : Bool → t.den} (hc : DT X cx Γ c Γ1) (h1 : c = true → DE X a Γ1 t (f true) Γ2) (h2 : c = false → DE X b Γ1 t (f false) Γ2) : DE X (.IfExp cx a b pos) Γ t (f c) Γ2 := fun F G σ H W Q q =>
  wpe_of (pe_ifExp pt_wp pe_wp pe_wp) (hc F G σ H W _ fun G' H' s W' => by
    cases c with
    | true => rw [if_pos rfl]; exact h1 rfl F G' σ H' W' Q fun v G2 H2 s2 W2 r => q v G2 H2 (s.trans s2) W2 r
    | false => rw [if_neg Bool.false_ne_true]; exact h2 rfl F G' σ H' W' Q fun v G2 H2 s2 W2 r => q v G2 H2 (s.trans s2) W2 r)
end
end Dn

set_option Elab.async false
set_option linter.all false
set_option maxRecDepth 100000
set_option maxHeartbeats 1000000
/-! Dn, part 3: lists, tuples, texts by place; built-ins. -/
namespace Dn
open PySem PySem.Spec PyProof.Rows L2 TL

/-- te gives a list, a tuple that may be read where it stands -/
def EvL (K : PySem.W.Frag) (te : TE) (Γ : List Slot) (t : Ty) (xs : List t.den) (Γ' : List Slot) : Prop :=
  ∀ (F : Fx) (G : Hp) (σ : L2.St) (H : Hp), Wd K F G σ H Γ → ∀ Q : VK, (∀ a vs G' H', Same G G' → Wd K F G' σ H' Γ' → SqL K H' a vs → RepL K t G' vs xs → Q (.ref a) H') → te σ H Q
def EvU (K : PySem.W.Frag) (te : TE) (Γ : List Slot) (t : Ty) (xs : List t.den) (Γ' : List Slot) : Prop :=
  ∀ (F : Fx) (G : Hp) (σ : L2.St) (H : Hp), Wd K F G σ H Γ → ∀ Q : VK, (∀ a vs G' H', Same G G' → Wd K F G' σ H' Γ' → SqT K H' a vs → RepL K t G' vs xs → Q (.ref a) H') → te σ H Q
/-- either -/
def EvQ (K : PySem.W.Frag) (te : TE) (Γ : List Slot) (t : Ty) (xs : List t.den) (Γ' : List Slot) : Prop :=
  ∀ (F : Fx) (G : Hp) (σ : L2.St) (H : Hp), Wd K F G σ H Γ → ∀ Q : VK, (∀ a vs G' H', Same G G' → Wd K F G' σ H' Γ' → (SqL K H' a vs ∨ SqT K H' a vs) → RepL K t G' vs xs → Q (.ref a) H') → te σ H Q
abbrev DL (X : Cx) (e : Expr) (Γ : List Slot) (t : Ty) (x : List t.den) (Γ' : List Slot) : Prop := EvL X.K (WPE X e) Γ t x Γ'
abbrev DU (X : Cx) (e : Expr) (Γ : List Slot) (t : Ty) (x : List t.den) (Γ' : List Slot) : Prop := EvU X.K (WPE X e) Γ t x Γ'
abbrev DQ (X : Cx) (e : Expr) (Γ : List Slot) (t : Ty) (x : List t.den) (Γ' : List Slot) : Prop := EvQ X.K (WPE X e) Γ t x Γ'
section
variable {X : Cx} {a b e : Expr} {es : List Expr} {pos apos : Pos} {Γ Γ1 Γ2 Γ3 : List Slot} {t : Ty} {xs : List t.den}
theorem dl_of (h : DE X e Γ (.lst t) xs Γ1) : DL X e Γ t xs Γ1 := fun F G σ H W Q q => h F G σ H W Q fun v G' H' s W' r => by
  obtain ⟨a, vs, rfl, h1, h2⟩ := r
  exact q a vs G' H' s W' (.inl (rd_mono W'.gh h1)) h2
theorem du_of (h : DE X e Γ (.tup t) xs Γ1) : DU X e Γ t xs Γ1 := fun F G σ H W Q q => h F G σ H W Q fun v G' H' s W' r => by
  obtain ⟨a, vs, rfl, h1, h2⟩ := r
  exact q a vs G' H' s W' (sqt_mono W'.gh h1) h2
theorem dl_O (h : DO X e Γ (.lst t xs) Γ1) : DL X e Γ t xs Γ1 := fun F G σ H W Q q => h F G σ H W Q fun p ho G' H' s W' hT ok => by
  obtain ⟨vs, rfl, r⟩ := ok
  exact q p vs G' H' s (W'.drop hT) (.inl (.inl W'.held.1)) r
theorem dl_V (i : Nat) {pin : Bool} {n : Str} (h : Γ[i]? = some (.ow pin (.lst t xs)) := by rfl) (hN : X.N[i]? = some n := by rfl) (hv : Vis X.env.scope n := by first | exact Or.inl rfl | exact Or.inr (Or.inl rfl) | exact Or.inr (Or.inr rfl))
    (hd : (n == ("__debug__" : Str)) = false := by decide) (hcd : (n == ("__classdict__" : Str)) = false := by decide) : DL X (.Name n pos) Γ t xs Γ := fun F G σ H W Q q => by
  obtain ⟨p, ho, h1, h2, h3, h4, h5, h6⟩ := W.sl i _ h
  obtain ⟨vs, rfl, r⟩ := h5
  exact wpe_of (pe_var hN hv hd hcd) ⟨.ref p, h1, q p vs G H (Same.refl G) W (.inl (.inl h4)) r⟩
theorem dq_L (h : DL X e Γ t xs Γ1) : DQ X e Γ t xs Γ1 := fun F G σ H W Q q => h F G σ H W Q fun a vs G' H' s W' h1 h2 => q a vs G' H' s W' (.inl h1) h2
theorem dq_U (h : DU X e Γ t xs Γ1) : DQ X e Γ t xs Γ1 := fun F G σ H W Q q => h F G σ H W Q fun a vs G' H' s W' h1 h2 => q a vs G' H' s W' (.inr h1) h2
/-- an owned name, from now on frozen -/
theorem Wd.freezeSlot {K : PySem.W.Frag} {F : Fx} {G : Hp} {σ : L2.St} {H : Hp} {i : Nat} (W : Wd K F G σ H Γ) (h : Γ[i]? = some (.ow false (.lst t xs))) :
    ∃ (p : Addr) (vs : List V), σ[i]? = some (some (.ref p)) ∧ G p = none ∧ H p = some (.lst vs) ∧ RepL K t G vs xs ∧ Wd K F (upd G p (.lst vs)) σ H (Γ.set i (.fr (.lst t) xs)) := by
  obtain ⟨p, ho, h1, h2, h3, h4, h5, h6⟩ := W.sl i _ h
  obtain ⟨vs, rfl, r⟩ := h5
  have sm : Same G (upd G p (.lst vs)) := same_upd h2
  have il : i < Γ.length := (List.getElem?_eq_some_iff.mp h).1
  refine ⟨p, vs, h1, h2, h4, r, by rw [List.length_set]; exact W.len, fun b o e => ?_, W.th, fun b o e => ?_, fun j s e => ?_, fun j k s s' q ne e1 o1 e2 o2 s1 s2 => ?_⟩
  · by_cases hb : b = p
    · subst hb; rw [upd_same] at e; rw [h4]; exact e
    · rw [upd_ne hb] at e; exact W.gh b o e
  · have ne : b ≠ p := fun z => by subst z; rw [h3] at e; cases e
    rw [upd_ne ne]; exact W.tg b o e
  · by_cases hj : i = j
    · subst hj
      rw [List.getElem?_set_self il] at e
      cases e
      exact ⟨.ref p, h1, p, vs, rfl, .inl upd_same, repL_mono sm r⟩
    · rw [List.getElem?_set_ne hj] at e
      have q := W.sl j s e
      cases s with
      | un => exact q
      | fr t x => obtain ⟨v, e1, e2⟩ := q; exact ⟨v, e1, rep_mono sm t v x e2⟩
      | ow pin o =>
        obtain ⟨a, ho', e1, e2, e3, e4, e5, e6⟩ := q
        have ne : a ≠ p := fun z => by subst z; exact W.dj i j _ _ a hj h rfl e rfl h1 e1
        exact ⟨a, ho', e1, by rw [upd_ne ne]; exact e2, e3, e4, own_mono sm e5, e6⟩
  · have hj : i ≠ j := fun z => by subst z; rw [List.getElem?_set_self il] at e1; cases e1; cases o1
    have hk : i ≠ k := fun z => by subst z; rw [List.getElem?_set_self il] at e2; cases e2; cases o2
    rw [List.getElem?_set_ne hj] at e1
    rw [List.getElem?_set_ne hk] at e2
    exact W.dj j k s s' q ne e1 o1 e2 o2 s1 s2
theorem de_frzV (i : Nat) {n : Str} (h : Γ[i]? = some (.ow false (.lst t xs)) := by rfl) (hN : X.N[i]? = some n := by rfl) (hv : Vis X.env.scope n := by first | exact Or.inl rfl | exact Or.inr (Or.inl rfl) | exact Or.inr (Or.inr rfl))
    (hd : (n == ("__debug__" : Str)) = false := by decide) (hcd : (n == ("__classdict__" : Str)) = false := by decide) : DE X (.Name n pos) Γ (.lst t) xs (Γ.set i (.fr (.lst t) xs)) := fun F G σ H W Q q => by
  obtain ⟨p, vs, h1, h2, h3, r, W'⟩ := W.freezeSlot h
  exact wpe_of (pe_var hN hv hd hcd) ⟨.ref p, h1, q (.ref p) _ H (same_upd h2) W' ⟨p, vs, rfl, .inl upd_same, repL_mono (same_upd h2) r⟩⟩

/-! ### items -/
/-- the place that an index means -/
def ix (n : Nat) (i : Int) : Nat := if 0 ≤ i then i.toNat else (i + n).toNat
def IxOk (n : Nat) (i : Int) : Prop := -(n : Int) ≤ i ∧ i < n
theorem ixN_ok {n : Nat} {i : Int} (h : IxOk n i) : ixN n i = some (ix n i) ∧ ix n i < n := by
  obtain ⟨h1, h2⟩ := h
  unfold ixN ix
  by_cases h0 : 0 ≤ i
  · rw [if_pos h0, if_pos h0, if_pos h2]
    exact ⟨rfl, by omega⟩
  · rw [if_neg h0, if_neg h0, if_pos h1]
    exact ⟨rfl, by omega⟩
/-- xs[i] -/
def get {α : Type} (d : α) (xs : List α) (i : Int) : α := (xs[ix xs.length i]?).getD d
theorem at_ok {K : PySem.W.Frag} {G : Hp} {vs : List V} {i : Int} (d : t.den) (r : RepL K t G vs xs) (h : IxOk xs.length i) : ∃ v, atI vs i = some v ∧ Rep K t G v (get d xs i) := by
  obtain ⟨h1, h2⟩ := ixN_ok h
  have el := pair_len r
  obtain ⟨v, e1, e2⟩ := pair_get r (List.getElem?_eq_getElem h2)
  refine ⟨v, ?_, ?_⟩
  · unfold atI
    rw [el, h1]
    exact e1
  · unfold get
    rw [List.getElem?_eq_getElem h2]
    exact e2
theorem plainIx {b : Expr} (h : ∀ o i, subscripted b false o i = operate [o, i] (getItem o i) := by intro _ _; rfl) : PlainIx b := h
theorem de_ixL (d : t.den) {i : Int} (hi : IxOk xs.length i) (ha : DE X a Γ (.lst t) xs Γ1) (hb : DE X b Γ1 .int i Γ2) (hs : PlainIx b := by exact fun _ _ => rfl) : DE X (.Subscript a b pos) Γ t (get d xs i) Γ2 := fun F G σ H W Q q =>
  wpe_of (pe_ix ix_list pe_wp pe_wp hs) (ev_op (τ := t) (c := get d xs i) ha hb (fun G H v w Q sg r1 r2 q => by
    obtain ⟨p, vs, rfl, h1, h2⟩ := r1
    obtain ⟨v, e1, e2⟩ := at_ok d h2 hi
    exact ⟨p, vs, i, v, rfl, r2, .inl (rd_mono sg h1), e1, q v e2⟩) F G σ H W Q q)
theorem de_ixU (d : t.den) {i : Int} (hi : IxOk xs.length i) (ha : DE X a Γ (.tup t) xs Γ1) (hb : DE X b Γ1 .int i Γ2) (hs : PlainIx b := by exact fun _ _ => rfl) : DE X (.Subscript a b pos) Γ t (get d xs i) Γ2 := fun F G σ H W Q q =>
  wpe_of (pe_ix ix_tup pe_wp pe_wp hs) (ev_op (τ := t) (c := get d xs i) ha hb (fun G H v w Q sg r1 r2 q => by
    obtain ⟨p, vs, rfl, h1, h2⟩ := r1
    obtain ⟨v, e1, e2⟩ := at_ok d h2 hi
    exact ⟨p, vs, i, v, rfl, r2, sqt_mono sg h1, e1, q v e2⟩) F G σ H W Q q)
/-- an owned name by a place -/
theorem de_ixV (k : Nat) (d : t.den) {n : Str} {apos : Pos} {pin : Bool} {i : Int} (hi : IxOk xs.length i) (hb : DE X b Γ .int i Γ2) (h : Γ2[k]? = some (.ow pin (.lst t xs)) := by rfl) (hN : X.N[k]? = some n := by rfl) (hv : Vis X.env.scope n := by first | exact Or.inl rfl | exact Or.inr (Or.inl rfl) | exact Or.inr (Or.inr rfl))
    (h0 : (Γ[k]?.map Slot.isOw) = some true := by rfl) (hd : (n == ("__debug__" : Str)) = false := by decide) (hcd : (n == ("__classdict__" : Str)) = false := by decide) (hs : PlainIx b := by exact fun _ _ => rfl) : DE X (.Subscript (.Name n apos) b pos) Γ t (get d xs i) Γ2 := fun F G σ H W Q q => by
  have ⟨p, hp⟩ : ∃ p, σ[k]? = some (some (.ref p)) := by
    cases e : Γ[k]? with
    | none => rw [e] at h0; cases h0
    | some s =>
      cases s with
      | ow pin o => obtain ⟨p, _, h1, _⟩ := W.sl k _ e; exact ⟨p, h1⟩
      | _ => rw [e] at h0; cases h0
  refine wpe_of (pe_ix ix_list (pe_var hN hv hd hcd) pe_wp hs) ⟨.ref p, hp, hb F G σ H W _ fun w G2 H2 s2 W2 r2 => ?_⟩
  obtain ⟨p', ho, h1, h2, h3, h4, h5, h6⟩ := W2.sl k _ h
  rw [hp] at h1; cases h1
  obtain ⟨vs, rfl, r⟩ := h5
  obtain ⟨v, e1, e2⟩ := at_ok d r hi
  exact ⟨p, vs, i, v, rfl, r2, .inl (.inl h4), e1, q v G2 H2 s2 W2 e2⟩
/-- s[i] -/
theorem de_ixS {x : List Nat} {i : Int} (hi : IxOk x.length i) (hz : Sz x.length) (ha : DE X a Γ .str x Γ1) (hb : DE X b Γ1 .int i Γ2) (hs : PlainIx b := by exact fun _ _ => rfl) : DE X (.Subscript a b pos) Γ .str [get 0 x i] Γ2 := fun F G σ H W Q q =>
  wpe_of (pe_ix ix_str pe_wp pe_wp hs) (ev_op (τ := .str) (c := [get 0 x i]) ha hb (fun G H v w Q sg r1 r2 q => by
    obtain ⟨h1, h2⟩ := ixN_ok hi
    refine ⟨⟨x.toArray⟩, i, get 0 x i, r1, r2, by rw [len_mk]; exact hz.le, ?_, q _ rfl⟩
    show atI x i = _
    unfold atI get
    rw [h1]
    show x[ix x.length i]? = _
    rw [List.getElem?_eq_getElem h2]
    rfl) F G σ H W Q q)
/-- t[0], t[1] of a pair, a triple .. -/
theorem pair_at {K : PySem.W.Frag} {G : Hp} {vs : List V} {v : V} {k : Nat} (h : vs[k]? = some v) : atI vs (k : Int) = some v := atI_nat h
section
variable {A B C E' E2 : Ty}
theorem de_20 {x : A.den × B.den} {j} {p2 : Pos} (ha : DE X a Γ (.p2 A B) x Γ1) : DE X (.Subscript a (.Constant (.int 0) j p2) pos) Γ A x.1 Γ1 := fun F G σ H W Q q =>
  wpe_of (pe_ix ix_tup pe_wp pe_int (fun _ _ => rfl)) (ev_op (τ := A) (c := x.1) ha (ev_c (K := X.K) (τ := .int) (c := (0 : Int)) (fun _ => rfl)) (fun G H v w Q sg r1 r2 q => by
    obtain ⟨p, v1, v2, rfl, h1, h2, h3⟩ := r1
    exact ⟨p, _, 0, v1, rfl, r2, sqt_mono sg h1, rfl, q _ h2⟩) F G σ H W Q q)
theorem de_21 {x : A.den × B.den} {j} {p2 : Pos} (ha : DE X a Γ (.p2 A B) x Γ1) : DE X (.Subscript a (.Constant (.int 1) j p2) pos) Γ B x.2 Γ1 := fun F G σ H W Q q =>
  wpe_of (pe_ix ix_tup pe_wp pe_int (fun _ _ => rfl)) (ev_op (τ := B) (c := x.2) ha (ev_c (K := X.K) (τ := .int) (c := (1 : Int)) (fun _ => rfl)) (fun G H v w Q sg r1 r2 q => by
    obtain ⟨p, v1, v2, rfl, h1, h2, h3⟩ := r1
    exact ⟨p, _, 1, v2, rfl, r2, sqt_mono sg h1, rfl, q _ h3⟩) F G σ H W Q q)
theorem de_30 {x : A.den × B.den × C.den} {j} {p2 : Pos} (ha : DE X a Γ (.p3 A B C) x Γ1) : DE X (.Subscript a (.Constant (.int 0) j p2) pos) Γ A x.1 Γ1 := fun F G σ H W Q q =>
  wpe_of (pe_ix ix_tup pe_wp pe_int (fun _ _ => rfl)) (ev_op (τ := A) (c := x.1) ha (ev_c (K := X.K) (τ := .int) (c := (0 : Int)) (fun _ => rfl)) (fun G H v w Q sg r1 r2 q => by
    obtain ⟨p, v1, v2, v3, rfl, h1, h2, h3, h4⟩ := r1
    exact ⟨p, _, 0, v1, rfl, r2, sqt_mono sg h1, rfl, q _ h2⟩) F G σ H W Q q)
theorem de_31 {x : A.den × B.den × C.den} {j} {p2 : Pos} (ha : DE X a Γ (.p3 A B C) x Γ1) : DE X (.Subscript a (.Constant (.int 1) j p2) pos) Γ B x.2.1 Γ1 := fun F G σ H W Q q =>
  wpe_of (pe_ix ix_tup pe_wp pe_int (fun _ _ => rfl)) (ev_op (τ := B) (c := x.2.1) ha (ev_c (K := X.K) (τ := .int) (c := (1 : Int)) (fun _ => rfl)) (fun G H v w Q sg r1 r2 q => by
    obtain ⟨p, v1, v2, v3, rfl, h1, h2, h3, h4⟩ := r1
    exact ⟨p, _, 1, v2, rfl, r2, sqt_mono sg h1, rfl, q _ h3⟩) F G σ H W Q q)
theorem de_32 {x : A.den × B.den × C.den} {j} {p2 : Pos} (ha : DE X a Γ (.p3 A B C) x Γ1) : DE X (.Subscript a (.Constant (.int 2) j p2) pos) Γ C x.2.2 Γ1 := fun F G σ H W Q q =>
  wpe_of (pe_ix ix_tup pe_wp pe_int (fun _ _ => rfl)) (ev_op (τ := C) (c := x.2.2) ha (ev_c (K := X.K) (τ := .int) (c := (2 : Int)) (fun _ => rfl)) (fun G H v w Q sg r1 r2 q => by
    obtain ⟨p, v1, v2, v3, rfl, h1, h2, h3, h4⟩ := r1
    exact ⟨p, _, 2, v3, rfl, r2, sqt_mono sg h1, rfl, q _ h4⟩) F G σ H W Q q)
end

/-! ### argument lists -/
/-- an argument: a frozen thing; the owned name in slot i; a new thing of its own -/
inductive Arg where
  | fr (t : Ty) (x : t.den)
  | bx (i : Nat)
  | tmp (o : Own)
def ArgOk (K : PySem.W.Frag) (F : Fx) (G H : Hp) (σ : L2.St) (Γ : List Slot) (v : V) : Arg → Prop
  | .fr t x => Rep K t G v x
  | .bx i => σ[i]? = some (some v)
  | .tmp o => ∃ p ho, v = .ref p ∧ F.T p = none ∧ OwnOk K G ho o ∧ Wd K { F with T := upd F.T p ho } G σ H Γ
def noTmp : Arg → Bool
  | .tmp _ => false
  | _ => true
def EvA (K : PySem.W.Frag) (ta : TA) (Γ : List Slot) (as : List Arg) (Γ' : List Slot) : Prop :=
  ∀ (F : Fx) (G : Hp) (σ : L2.St) (H : Hp), Wd K F G σ H Γ → ∀ Q : List V → Hp → Prop, (∀ vs G' H', Same G G' → Wd K F G' σ H' Γ' → Paired (fun v a => ArgOk K F G' H' σ Γ' v a) vs as → Q vs H') → ta σ H Q
abbrev DA (X : Cx) (es : List Expr) (Γ : List Slot) (as : List Arg) (Γ' : List Slot) : Prop := EvA X.K (WPA X es) Γ as Γ'
theorem da_nil : DA X [] Γ [] Γ := fun F G σ H W Q q => wpa_of pa_nil (q [] G H (Same.refl G) W .nil)
theorem da_cons {as : List Arg} {x : t.den} (ha : DE X e Γ t x Γ1) (hr : DA X es Γ1 as Γ2) (hs : starEach (e :: es) X.env = (false, eval e X.env) :: starEach es X.env := by rfl) : DA X (e :: es) Γ (.fr t x :: as) Γ2 := fun F G σ H W Q q =>
  wpa_of (pa_cons pe_wp pa_wp hs) (ha F G σ H W _ fun v G1 H1 s1 W1 r1 => hr F G1 σ H1 W1 _ fun vs G2 H2 s2 W2 r2 => q (v :: vs) G2 H2 (s1.trans s2) W2 (.cons (rep_mono s2 t v x r1) r2))
theorem da_box (i : Nat) {as : List Arg} {n : Str} {pos : Pos} (hr : DA X es Γ as Γ2) (h0 : (Γ[i]?.map Slot.isOw) = some true := by rfl) (hN : X.N[i]? = some n := by rfl) (hv : Vis X.env.scope n := by first | exact Or.inl rfl | exact Or.inr (Or.inl rfl) | exact Or.inr (Or.inr rfl))
    (hd : (n == ("__debug__" : Str)) = false := by decide) (hcd : (n == ("__classdict__" : Str)) = false := by decide) (hs : starEach (.Name n pos :: es) X.env = (false, eval (.Name n pos) X.env) :: starEach es X.env := by rfl) : DA X (.Name n pos :: es) Γ (.bx i :: as) Γ2 := fun F G σ H W Q q => by
  have ⟨p, hp⟩ : ∃ p, σ[i]? = some (some (.ref p)) := by
    cases e : Γ[i]? with
    | none => rw [e] at h0; cases h0
    | some s =>
      cases s with
      | ow pin o => obtain ⟨p, _, h1, _⟩ := W.sl i _ e; exact ⟨p, h1⟩
      | _ => rw [e] at h0; cases h0
  exact wpa_of (pa_cons (pe_var hN hv hd hcd) pa_wp hs) ⟨.ref p, hp, hr F G σ H W _ fun vs G2 H2 s2 W2 r2 => q (.ref p :: vs) G2 H2 s2 W2 (.cons hp r2)⟩
def Arg.isFr : Arg → Bool
  | .fr _ _ => true
  | _ => false
theorem argOk_F {K : PySem.W.Frag} {F F' : Fx} {G H : Hp} {σ : L2.St} {Γ Γ' : List Slot} {vs : List V} {as : List Arg} (h : Paired (fun v a => ArgOk K F G H σ Γ v a) vs as) (hf : as.all Arg.isFr = true) :
    Paired (fun v a => ArgOk K F' G H σ Γ' v a) vs as := by
  induction h with
  | nil => exact .nil
  | @cons v a _ _ r _ ih =>
    rw [List.all_cons, Bool.and_eq_true] at hf
    refine .cons ?_ (ih hf.2)
    cases a with
    | fr t x => exact r
    | _ => cases hf.1
theorem da_tmp {as : List Arg} {o : Own} (ha : DO X e Γ o Γ1) (hr : DA X es Γ1 as Γ2) (hf : as.all Arg.isFr = true := by rfl) (hs : starEach (e :: es) X.env = (false, eval e X.env) :: starEach es X.env := by rfl) : DA X (e :: es) Γ (.tmp o :: as) Γ2 := fun F G σ H W Q q =>
  wpa_of (pa_cons pe_wp pa_wp hs) (ha F G σ H W _ fun p ho G1 H1 s1 W1 hT ok => hr _ G1 σ H1 W1 _ fun vs G2 H2 s2 W2 r2 => q (.ref p :: vs) G2 H2 (s1.trans s2) (W2.drop hT) (.cons ⟨p, ho, rfl, hT, own_mono s2 ok, W2⟩ (argOk_F r2 hf)))
end
end Dn

set_option Elab.async false
set_option linter.all false
set_option maxRecDepth 100000
set_option maxHeartbeats 1000000
/-! Dn, part 4: calls of defs, statements, ends, loops. -/
namespace Dn
open PySem PySem.Spec PyProof.Rows L2 TL

/-! ### what a def promises -/
inductive Ret where
  | fr (t : Ty) (x : t.den)
  | ow (o : Own)
def RetOk (K : PySem.W.Frag) (G H0 H : Hp) (v : V) : Ret → Prop
  | .fr t x => Rep K t G v x
  | .ow o => ∃ p ho, v = .ref p ∧ H0 p = none ∧ G p = none ∧ H p = some ho ∧ OwnOk K G ho o
def ArgF (K : PySem.W.Frag) (G : Hp) (v : V) : Arg → Prop
  | .fr t x => Rep K t G v x
  | _ => False
/-- no box -/
def Pm0 (K : PySem.W.Frag) (as : List Arg) (r : Ret) : Sp := fun vs H Q _ => ∃ G, Same G H ∧ Paired (ArgF K G) vs as ∧
  ∀ v G' H', Same G G' → Same G' H' → Same H H' → (∀ c o, H c = some o → G c = none → G' c = none) → RetOk K G' H H' v r → Q v H'
/-- a box ahead -/
def Pm1 (K : PySem.W.Frag) (y y' : Own) (as : List Arg) (r : Ret) : Sp := fun vs H Q _ => ∃ G b ho vs', vs = .ref b :: vs' ∧ Same G H ∧ G b = none ∧ H b = some ho ∧ OwnOk K G ho y ∧ Paired (ArgF K G) vs' as ∧
  ∀ v G' H' ho', Same G G' → Same G' H' → (∀ c o, c ≠ b → H c = some o → H' c = some o) → H' b = some ho' → OwnOk K G' ho' y' → (∀ c o, H c = some o → G c = none → G' c = none) → RetOk K G' H H' v r → Q v H'
section
variable {K : PySem.W.Frag} {F : Fx} {G G' H H' : Hp} {σ : L2.St} {Γ : List Slot} {vs : List V} {as : List Arg}
theorem argF_of {b : List Slot} (h : Paired (fun v a => ArgOk K F G H σ b v a) vs as) (hf : as.all Arg.isFr = true) : Paired (ArgF K G) vs as := by
  induction h with
  | nil => exact .nil
  | @cons v a _ _ r _ ih =>
    rw [List.all_cons, Bool.and_eq_true] at hf
    refine .cons ?_ (ih hf.2)
    cases a with
    | fr t x => exact r
    | _ => cases hf.1
/-- behind a call that has nothing of ours to change -/
theorem Wd.call (W : Wd K F G σ H Γ) (s1 : Same G G') (s2 : Same G' H') (s3 : Same H H') (fr : ∀ c o, H c = some o → G c = none → G' c = none) : Wd K F G' σ H' Γ where
  len := W.len
  gh := s2
  th := W.th.trans s3
  tg := fun b o e => fr b o (W.th b o e) (W.tg b o e)
  sl := fun i s e => by
    have q := W.sl i s e
    cases s with
    | un => exact q
    | fr t x => obtain ⟨v, h1, h2⟩ := q; exact ⟨v, h1, rep_mono s1 t v x h2⟩
    | ow pin o =>
      obtain ⟨a, ho', h1, h2, h3, h4, h5, h6⟩ := q
      exact ⟨a, ho', h1, fr a _ h4 h2, h3, s3 a _ h4, own_mono s1 h5, h6⟩
  dj := W.dj
/-- .. but the owned thing in slot i -/
theorem Wd.callB {i : Nat} {pin : Bool} {y y' : Own} {b : Addr} {ho' : HO} (W : Wd K F G σ H Γ) (hi : Γ[i]? = some (.ow pin y)) (hb : σ[i]? = some (some (.ref b))) (s1 : Same G G') (s2 : Same G' H') (s3 : ∀ c o, c ≠ b → H c = some o → H' c = some o)
    (fr : ∀ c o, H c = some o → G c = none → G' c = none) (h' : H' b = some ho') (ok : OwnOk K G' ho' y') : Wd K F G' σ H' (Γ.set i (.ow pin y')) := by
  obtain ⟨b', ho, e1, e2, e3, e4, e5, e6⟩ := W.sl i _ hi
  rw [hb] at e1; cases e1
  have il : i < Γ.length := (List.getElem?_eq_some_iff.mp hi).1
  have isow : ∀ (j : Nat) (s : Slot), (Γ.set i (.ow pin y'))[j]? = some s → s.isOw = true → ∃ s', Γ[j]? = some s' ∧ s'.isOw = true := fun j s e o => by
    by_cases hj : i = j
    · subst hj; exact ⟨_, hi, rfl⟩
    · rw [List.getElem?_set_ne hj] at e; exact ⟨s, e, o⟩
  refine ⟨by rw [List.length_set]; exact W.len, s2, fun c o e => s3 c o (fun z => by subst z; rw [e3] at e; cases e) (W.th c o e), fun c o e => fr c o (W.th c o e) (W.tg c o e), fun j s e => ?_, fun j k s s' q ne a1 o1 a2 o2 => ?_⟩
  · by_cases hj : i = j
    · subst hj
      rw [List.getElem?_set_self il] at e
      cases e
      exact ⟨b, ho', hb, fr b _ e4 e2, e3, h', ok, e6⟩
    · rw [List.getElem?_set_ne hj] at e
      have q := W.sl j s e
      cases s with
      | un => exact q
      | fr t x => obtain ⟨v, h1, h2⟩ := q; exact ⟨v, h1, rep_mono s1 t v x h2⟩
      | ow pin' o =>
        obtain ⟨a, ho2, h1, h2, h3, h4, h5, h6⟩ := q
        have ne : a ≠ b := fun z => by subst z; exact W.dj i j _ _ a hj hi rfl e rfl hb h1
        exact ⟨a, ho2, h1, fr a _ h4 h2, h3, s3 a _ ne h4, own_mono s1 h5, h6⟩
  · obtain ⟨t1, b1, c1⟩ := isow j s a1 o1
    obtain ⟨t2, b2, c2⟩ := isow k s' a2 o2
    exact W.dj j k t1 t2 q ne b1 c1 b2 c2
end
section
variable {X : Cx} {f : Addr} {fd : FuncData} {ps : List Str} {sp : Sp} {k : Nat} {n : Str} {p pos : Pos} {e : Expr} {es : List Expr} {Γ Γ1 : List Slot} {as : List Arg} {t : Ty} {x : t.den} {o y y' : Own}
theorem de_call (F : FnOk X.prog X.w X.K X.mg X.base CX0 k f fd ps sp) (hr : Room k X.A) (hm : X.mg n = some (.ref f)) (hk : PySem.W.keepIn X.K (.ref f) = true) (hb : Binds X.K fd ps [])
    (hsp : ∀ vs H Q, Pm0 X.K as (.fr t x) vs H Q E0 → sp vs H Q E0) (ha : DA X (e :: es) Γ as Γ1) (hf : as.all Arg.isFr = true := by rfl)
    (hg : Gl X n := by rfl) (hdb : (n == ("__debug__" : Str)) = false := by decide) (he : starEach (e :: es) X.env = (false, eval e X.env) :: starEach es X.env := by rfl) (hpl : (backTo pos (starEach es X.env)).any (·.1) = false := by rfl) :
    DE X (.Call (.Name n p) (e :: es) [] pos) Γ t x Γ1 := fun Fx G σ H W Q q =>
  wpe_of (pe_call F hr hg hm hk hb .nil pass0 pa_wp hdb he hpl) (ha Fx G σ H W _ fun vs G1 H1 s1 W1 r1 => by
    rw [List.append_nil]
    exact hsp vs H1 Q ⟨G1, W1.gh, argF_of r1 hf, fun v G2 H2 s2 s3 s4 fr r => q v G2 H2 (s1.trans s2) (W1.call s2 s3 s4 fr) r⟩)
theorem do_call (F : FnOk X.prog X.w X.K X.mg X.base CX0 k f fd ps sp) (hr : Room k X.A) (hm : X.mg n = some (.ref f)) (hk : PySem.W.keepIn X.K (.ref f) = true) (hb : Binds X.K fd ps [])
    (hsp : ∀ vs H Q, Pm0 X.K as (.ow o) vs H Q E0 → sp vs H Q E0) (ha : DA X (e :: es) Γ as Γ1) (hf : as.all Arg.isFr = true := by rfl)
    (hg : Gl X n := by rfl) (hdb : (n == ("__debug__" : Str)) = false := by decide) (he : starEach (e :: es) X.env = (false, eval e X.env) :: starEach es X.env := by rfl) (hpl : (backTo pos (starEach es X.env)).any (·.1) = false := by rfl) :
    DO X (.Call (.Name n p) (e :: es) [] pos) Γ o Γ1 := fun Fx G σ H W Q q =>
  wpe_of (pe_call F hr hg hm hk hb .nil pass0 pa_wp hdb he hpl) (ha Fx G σ H W _ fun vs G1 H1 s1 W1 r1 => by
    rw [List.append_nil]
    exact hsp vs H1 Q ⟨G1, W1.gh, argF_of r1 hf, fun v G2 H2 s2 s3 s4 fr r => by
      obtain ⟨a, ho, rfl, h0, h1, h2, h3⟩ := r
      have W2 := W1.call s2 s3 s4 fr
      exact q a ho G2 H2 (s1.trans s2) ⟨W2.len, W2.gh, fun c u e => by
          change upd Fx.T a ho c = some u at e
          by_cases z : c = a
          · subst z; rw [upd_same] at e; rw [h2]; exact e
          · rw [upd_ne z] at e; exact W2.th c u e, fun c u e => by
          change upd Fx.T a ho c = some u at e
          by_cases z : c = a
          · subst z; exact h1
          · rw [upd_ne z] at e; exact W2.tg c u e, fun i s e => by
          have qq := W1.sl i s e
          have q2 := W2.sl i s e
          cases s with
          | un => exact q2
          | fr t x => exact q2
          | ow pin o =>
            obtain ⟨c, ho', e1, e2, e3, e4, e5, e6⟩ := q2
            obtain ⟨c', ho2, d1, d2, d3, d4, d5, d6⟩ := qq
            rw [e1] at d1; cases d1
            have ne : c ≠ a := ne_of_none d4 h0
            exact ⟨c, ho', e1, e2, (by show upd Fx.T a ho c = none; rw [upd_ne ne]; exact e3), e4, e5, e6⟩, W2.dj⟩ (W1.tn h0) h3⟩)
/-- f(box, ..): the box is changed -/
theorem de_callB (i : Nat) {pin : Bool} (F : FnOk X.prog X.w X.K X.mg X.base CX0 k f fd ps sp) (hr : Room k X.A) (hm : X.mg n = some (.ref f)) (hk : PySem.W.keepIn X.K (.ref f) = true) (hb : Binds X.K fd ps [])
    (hsp : ∀ vs H Q, Pm1 X.K y y' as (.fr t x) vs H Q E0 → sp vs H Q E0) (ha : DA X (e :: es) Γ (.bx i :: as) Γ1) (hi : Γ1[i]? = some (.ow pin y) := by rfl) (hf : as.all Arg.isFr = true := by rfl)
    (hg : Gl X n := by rfl) (hdb : (n == ("__debug__" : Str)) = false := by decide) (he : starEach (e :: es) X.env = (false, eval e X.env) :: starEach es X.env := by rfl) (hpl : (backTo pos (starEach es X.env)).any (·.1) = false := by rfl) :
    DE X (.Call (.Name n p) (e :: es) [] pos) Γ t x (Γ1.set i (.ow pin y')) := fun Fx G σ H W Q q =>
  wpe_of (pe_call F hr hg hm hk hb .nil pass0 pa_wp hdb he hpl) (ha Fx G σ H W _ fun vs G1 H1 s1 W1 r1 => by
    rw [List.append_nil]
    cases r1 with
    | @cons v _ vs' _ r r1 =>
      obtain ⟨b, ho, h1, h2, h3, h4, h5, h6⟩ := W1.sl i _ hi
      have r' : σ[i]? = some (some v) := r
      rw [h1] at r'; cases r'
      exact hsp _ H1 Q ⟨G1, b, ho, vs', rfl, W1.gh, h2, h4, h5, argF_of r1 hf, fun v G2 H2 ho' s2 s3 s4 hb' ok fr r => q v G2 H2 (s1.trans s2) (W1.callB hi h1 s2 s3 s4 fr hb' ok) r⟩)
theorem do_callB (i : Nat) {pin : Bool} (F : FnOk X.prog X.w X.K X.mg X.base CX0 k f fd ps sp) (hr : Room k X.A) (hm : X.mg n = some (.ref f)) (hk : PySem.W.keepIn X.K (.ref f) = true) (hb : Binds X.K fd ps [])
    (hsp : ∀ vs H Q, Pm1 X.K y y' as (.ow o) vs H Q E0 → sp vs H Q E0) (ha : DA X (e :: es) Γ (.bx i :: as) Γ1) (hi : Γ1[i]? = some (.ow pin y) := by rfl) (hf : as.all Arg.isFr = true := by rfl)
    (hg : Gl X n := by rfl) (hdb : (n == ("__debug__" : Str)) = false := by decide) (he : starEach (e :: es) X.env = (false, eval e X.env) :: starEach es X.env := by rfl) (hpl : (backTo pos (starEach es X.env)).any (·.1) = false := by rfl) :
    DO X (.Call (.Name n p) (e :: es) [] pos) Γ o (Γ1.set i (.ow pin y')) := fun Fx G σ H W Q q =>
  wpe_of (pe_call F hr hg hm hk hb .nil pass0 pa_wp hdb he hpl) (ha Fx G σ H W _ fun vs G1 H1 s1 W1 r1 => by
    rw [List.append_nil]
    cases r1 with
    | @cons v _ vs' _ r r1 =>
      obtain ⟨b, ho, h1, h2, h3, h4, h5, h6⟩ := W1.sl i _ hi
      have r' : σ[i]? = some (some v) := r
      rw [h1] at r'; cases r'
      refine hsp _ H1 Q ⟨G1, b, ho, vs', rfl, W1.gh, h2, h4, h5, argF_of r1 hf, fun v G2 H2 ho' s2 s3 s4 hb' ok fr r => ?_⟩
      obtain ⟨a, hoa, rfl, g0, g1, g2, g3⟩ := r
      have W2 := W1.callB hi h1 s2 s3 s4 fr hb' ok
      refine q a hoa G2 H2 (s1.trans s2) ⟨W2.len, W2.gh, fun c u e => ?_, fun c u e => ?_, fun j s e => ?_, W2.dj⟩ (W1.tn g0) g3
      · change upd Fx.T a hoa c = some u at e
        by_cases z : c = a
        · subst z; rw [upd_same] at e; rw [g2]; exact e
        · rw [upd_ne z] at e; exact W2.th c u e
      · change upd Fx.T a hoa c = some u at e
        by_cases z : c = a
        · subst z; exact g1
        · rw [upd_ne z] at e; exact W2.tg c u e
      · have q2 := W2.sl j s e
        cases s with
        | un => exact q2
        | fr t x => exact q2
        | ow pin' o' =>
          obtain ⟨c, ho2, e1, e2, e3, e4, e5, e6⟩ := q2
          have hc : ∃ ho3, H1 c = some ho3 := by
            by_cases hj : i = j
            · subst hj; rw [h1] at e1; cases e1; exact ⟨_, h4⟩
            · rw [List.getElem?_set_ne hj] at e
              obtain ⟨c', ho3, d1, d2, d3, d4, _⟩ := W1.sl j _ e
              rw [e1] at d1; cases d1
              exact ⟨_, d4⟩
          obtain ⟨ho3, hc⟩ := hc
          have ne : c ≠ a := ne_of_none hc g0
          exact ⟨c, ho2, e1, e2, (by show upd Fx.T a hoa c = none; rw [upd_ne ne]; exact e3), e4, e5, e6⟩)
/-- f(a new thing, ..): the thing is let go behind -/
theorem de_callT (F : FnOk X.prog X.w X.K X.mg X.base CX0 k f fd ps sp) (hr : Room k X.A) (hm : X.mg n = some (.ref f)) (hk : PySem.W.keepIn X.K (.ref f) = true) (hb : Binds X.K fd ps [])
    (hsp : ∀ vs H Q, Pm1 X.K y y' as (.fr t x) vs H Q E0 → sp vs H Q E0) (ha : DA X (e :: es) Γ (.tmp y :: as) Γ1) (hf : as.all Arg.isFr = true := by rfl)
    (hg : Gl X n := by rfl) (hdb : (n == ("__debug__" : Str)) = false := by decide) (he : starEach (e :: es) X.env = (false, eval e X.env) :: starEach es X.env := by rfl) (hpl : (backTo pos (starEach es X.env)).any (·.1) = false := by rfl) :
    DE X (.Call (.Name n p) (e :: es) [] pos) Γ t x Γ1 := fun Fx G σ H W Q q =>
  wpe_of (pe_call F hr hg hm hk hb .nil pass0 pa_wp hdb he hpl) (ha Fx G σ H W _ fun vs G1 H1 s1 W1 r1 => by
    rw [List.append_nil]
    cases r1 with
    | @cons v _ vs' _ r r1 =>
      obtain ⟨b, ho, rfl, hT, ok0, Wt⟩ := r
      obtain ⟨hh, hg0⟩ := Wt.held
      refine hsp _ H1 Q ⟨G1, b, ho, vs', rfl, W1.gh, hg0, hh, ok0, argF_of r1 hf, fun v G2 H2 ho' s2 s3 s4 hb' ok fr r => q v G2 H2 (s1.trans s2) ?_ r⟩
      have ntb : ∀ c u, Fx.T c = some u → c ≠ b := fun c u e => ne_of_none e hT
      refine ⟨W1.len, s3, fun c u e => s4 c u (ntb c u e) (W1.th c u e), fun c u e => fr c u (W1.th c u e) (W1.tg c u e), fun j s e => ?_, W1.dj⟩
      have q2 := Wt.sl j s e
      cases s with
      | un => exact q2
      | fr t x => obtain ⟨v, h1, h2⟩ := q2; exact ⟨v, h1, rep_mono s2 t v x h2⟩
      | ow pin' o' =>
        obtain ⟨c, ho2, e1, e2, e3, e4, e5, e6⟩ := q2
        change upd Fx.T b ho c = none at e3
        have ne : c ≠ b := fun z => by subst z; rw [upd_same] at e3; cases e3
        rw [upd_ne ne] at e3
        exact ⟨c, ho2, e1, fr c _ e4 e2, e3, s4 c _ ne e4, own_mono s2 e5, e6⟩)
end
end Dn

set_option Elab.async false
set_option linter.all false
set_option maxRecDepth 100000
set_option maxHeartbeats 1000000
/-! Dn, part 5: statements, ends, a def by its body. -/
namespace Dn
open PySem PySem.Spec PyProof.Rows L2 TL

inductive Lp (S ρ : Type) where
  | go (s : S) | stop (s : S) | ret (x : ρ)
inductive Out (ρ : Type) : Type 1 where
  | nx (Γ : List Slot) | bk (Γ : List Slot) | ct (Γ : List Slot) | rt (x : ρ)
  | br (b : Bool) (o1 o2 : Out ρ)
  | lp {S : Type} (r : Lp S ρ) (k : S → Out ρ)
abbrev RI (ρ : Type) := Fx → Hp → L2.St → Hp → V → ρ → Prop
def OutOk {ρ : Type} (K : PySem.W.Frag) (R : RI ρ) (F : Fx) (D : Ends) : Hp → Out ρ → Prop
  | G, .nx Γ => ∀ σ G' H, Same G G' → Wd K F G' σ H Γ → D.nx σ H
  | G, .bk Γ => ∀ σ G' H, Same G G' → Wd K F G' σ H Γ → D.bk σ H
  | G, .ct Γ => ∀ σ G' H, Same G G' → Wd K F G' σ H Γ → D.ct σ H
  | G, .rt x => ∀ v σ G' H, Same G G' → R F G' σ H v x → D.rt v H
  | G, .br b o1 o2 => (b = true → OutOk K R F D G o1) ∧ (b = false → OutOk K R F D G o2)
  | G, .lp r k => match r with
    | .go s => OutOk K R F D G (k s)
    | .stop s => OutOk K R F D G (k s)
    | .ret x => ∀ v σ G' H, Same G G' → R F G' σ H v x → D.rt v H
section
variable {ρ : Type} {K : PySem.W.Frag} {R : RI ρ} {F : Fx} {D : Ends}
theorem outOk_mono {G G' : Hp} (e : Same G G') : ∀ {o : Out ρ}, OutOk K R F D G o → OutOk K R F D G' o
  | .nx Γ, h => fun σ G2 H s W => h σ G2 H (e.trans s) W
  | .bk Γ, h => fun σ G2 H s W => h σ G2 H (e.trans s) W
  | .ct Γ, h => fun σ G2 H s W => h σ G2 H (e.trans s) W
  | .rt x, h => fun v σ G2 H s W => h v σ G2 H (e.trans s) W
  | .br b o1 o2, h => ⟨fun hb => outOk_mono e (h.1 hb), fun hb => outOk_mono e (h.2 hb)⟩
  | .lp (.go s) k, h => outOk_mono (o := k s) e h
  | .lp (.stop s) k, h => outOk_mono (o := k s) e h
  | .lp (.ret x) k, h => fun v σ G2 H s W => h v σ G2 H (e.trans s) W
end
def DSv {ρ : Type} (K : PySem.W.Frag) (R : RI ρ) (ts : TS) (Γ : List Slot) (o : Out ρ) : Prop :=
  ∀ (F : Fx) (G : Hp) (σ : L2.St) (H : Hp), Wd K F G σ H Γ → ∀ D : Ends, OutOk K R F D G o → ts D σ H
abbrev DS (X : Cx) {ρ : Type} (R : RI ρ) (st : Stmt) (Γ : List Slot) (o : Out ρ) : Prop := DSv X.K R (WPS X st) Γ o
abbrev DSs (X : Cx) {ρ : Type} (R : RI ρ) (st : List Stmt) (Γ : List Slot) (o : Out ρ) : Prop := DSv X.K R (WPSs X st) Γ o
/-- o, then the rest where it goes on, is o' -/
def Cont (X : Cx) {ρ : Type} (R : RI ρ) (o : Out ρ) (rest : List Stmt) (o' : Out ρ) : Prop :=
  ∀ (F : Fx) (D : Ends) (G : Hp), OutOk X.K R F D G o' → OutOk X.K R F { D with nx := fun σ H => WPSs X rest D σ H } G o
section
variable {X : Cx} {ρ : Type} {R : RI ρ} {st : Stmt} {rest : List Stmt} {Γ Γ1 Γ2 : List Slot} {o o' o1 o2 o1' o2' : Out ρ}
theorem dss_nil : DSs X R [] Γ (.nx Γ) := fun F G σ H W D h => wpss_of pss_nil (h σ G H (Same.refl G) W)
theorem dss_one (h : DS X R st Γ o) : DSs X R [st] Γ o := fun F G σ H W D q => wpss_of (pss_one ps_wp) (h F G σ H W D q)
theorem dss_cons (h : DS X R st Γ o) (c : Cont X R o rest o') : DSs X R (st :: rest) Γ o' := fun F G σ H W D q => wpss_of (pss_cons ps_wp pss_wp) (h F G σ H W _ (c F D G q))
theorem cont_nx (h : DSs X R rest Γ o) : Cont X R (.nx Γ) rest o := fun F D G q σ G' H s W => h F G' σ H W D (outOk_mono s q)
theorem cont_let {S : Type} {Γs : S → List Slot} {s0 : S} {of : S → Out ρ} (h : ∀ s, DSs X R rest (Γs s) (of s)) : Cont X R (.nx (Γs s0)) rest (of s0) := cont_nx (h s0)
theorem cont_bk : Cont X R (.bk Γ) rest (.bk Γ) := fun F D G q => q
theorem cont_ct : Cont X R (.ct Γ) rest (.ct Γ) := fun F D G q => q
theorem cont_rt {x : ρ} : Cont X R (.rt x) rest (.rt x) := fun F D G q => q
theorem cont_br {b : Bool} (h1 : b = true → Cont X R o1 rest o1') (h2 : b = false → Cont X R o2 rest o2') : Cont X R (.br b o1 o2) rest (.br b o1' o2') := fun F D G q =>
  ⟨fun hb => h1 hb F D G (q.1 hb), fun hb => h2 hb F D G (q.2 hb)⟩
theorem cont_lp {S : Type} {r : Lp S ρ} {k k' : S → Out ρ} (h : ∀ s, Cont X R (k s) rest (k' s)) : Cont X R (.lp r k) rest (.lp r k') := fun F D G q => by
  cases r with
  | go s => exact h s F D G q
  | stop s => exact h s F D G q
  | ret x => exact q
end

/-! ### what stands for less -/
def Ent (K : PySem.W.Frag) (Γ Γ' : List Slot) : Prop := ∀ (F : Fx) (G : Hp) (σ : L2.St) (H : Hp), Wd K F G σ H Γ → ∃ G', Same G G' ∧ Wd K F G' σ H Γ'
inductive Wk : List Slot → List Slot → Prop where
  | nil : Wk [] []
  | eq {s : Slot} {l m : List Slot} (h : Wk l m) : Wk (s :: l) (s :: m)
  | un {s : Slot} {l m : List Slot} (h : Wk l m) : Wk (s :: l) (.un :: m)
theorem Wk.len {l m : List Slot} (h : Wk l m) : l.length = m.length := by
  induction h with
  | nil => rfl
  | eq _ ih => simp [ih]
  | un _ ih => simp [ih]
theorem Wk.get {l m : List Slot} (h : Wk l m) : ∀ (i : Nat) (s : Slot), m[i]? = some s → s = .un ∨ l[i]? = some s := by
  induction h with
  | nil => intro i s e; simp at e
  | eq _ ih => intro i s e; cases i with
    | zero => exact .inr (by simpa using e)
    | succ i => simpa using ih i s (by simpa using e)
  | un _ ih => intro i s e; cases i with
    | zero => exact .inl (by simpa using e.symm)
    | succ i => simpa using ih i s (by simpa using e)
section
variable {K : PySem.W.Frag} {F : Fx} {G G' H H' : Hp} {σ σ' : L2.St} {Γ Γ' Γ2 : List Slot}
theorem Wd.weak (W : Wd K F G σ H Γ) (k : Wk Γ Γ') : Wd K F G σ H Γ' where
  len := W.len.trans k.len
  gh := W.gh
  th := W.th
  tg := W.tg
  sl := fun i s e => by
    rcases k.get i s e with z | z
    · subst z; trivial
    · exact W.sl i s z
  dj := fun i j s s' p ne e1 o1 e2 o2 h1 h2 => by
    rcases k.get i s e1 with z | z
    · subst z; cases o1
    · rcases k.get j s' e2 with y | y
      · subst y; cases o2
      · exact W.dj i j s s' p ne z o1 y o2 h1 h2
theorem ent_refl : Ent K Γ Γ := fun F G σ H W => ⟨G, Same.refl G, W⟩
theorem ent_wk (k : Wk Γ Γ') : Ent K Γ Γ' := fun F G σ H W => ⟨G, Same.refl G, W.weak k⟩
theorem ent_trans (a : Ent K Γ Γ') (b : Ent K Γ' Γ2) : Ent K Γ Γ2 := fun F G σ H W => by
  obtain ⟨G1, s1, W1⟩ := a F G σ H W
  obtain ⟨G2, s2, W2⟩ := b F G1 σ H W1
  exact ⟨G2, s1.trans s2, W2⟩
theorem ent_frz (i : Nat) {t : Ty} {xs : List t.den} (h : Γ[i]? = some (.ow false (.lst t xs)) := by rfl) : Ent K Γ (Γ.set i (.fr (.lst t) xs)) := fun F G σ H W => by
  obtain ⟨p, vs, h1, h2, h3, r, W'⟩ := W.freezeSlot h
  exact ⟨_, same_upd h2, W'⟩
/-- a name holds a frozen thing -/
theorem Wd.setFr {i : Nat} {t : Ty} {x : t.den} {v : V} (W : Wd K F G σ H Γ) (r : Rep K t G v x) : Wd K F G (σ.set i (some v)) H (Γ.set i (.fr t x)) where
  len := by rw [List.length_set, List.length_set]; exact W.len
  gh := W.gh
  th := W.th
  tg := W.tg
  sl := fun j s e => by
    by_cases hj : i = j
    · subst hj
      have il : i < Γ.length := by have := (List.getElem?_eq_some_iff.mp e).1; rwa [List.length_set] at this
      rw [List.getElem?_set_self il] at e; cases e
      exact ⟨v, List.getElem?_set_self (by rw [W.len]; exact il), r⟩
    · rw [List.getElem?_set_ne hj] at e ⊢; exact W.sl j s e
  dj := fun j k s s' p ne e1 o1 e2 o2 h1 h2 => by
    have a : ∀ (j : Nat) (s : Slot), (Γ.set i (.fr t x))[j]? = some s → s.isOw = true → i ≠ j := fun j s e o z => by
      subst z
      have il : i < Γ.length := by have := (List.getElem?_eq_some_iff.mp e).1; rwa [List.length_set] at this
      rw [List.getElem?_set_self il] at e; cases e; cases o
    have b1 := a j s e1 o1
    have b2 := a k s' e2 o2
    rw [List.getElem?_set_ne b1] at e1 h1
    rw [List.getElem?_set_ne b2] at e2 h2
    exact W.dj j k s s' p ne e1 o1 e2 o2 h1 h2
/-- a name holds what was held aside -/
theorem Wd.setOw {i : Nat} {o : Own} {p : Addr} {ho : HO} (W : Wd K { F with T := upd F.T p ho } G σ H Γ) (hT : F.T p = none) (ok : OwnOk K G ho o) : Wd K F G (σ.set i (some (.ref p))) H (Γ.set i (.ow false o)) := by
  have W0 := W.drop hT
  have held := W.held
  have np : ∀ (j : Nat) (s : Slot), Γ[j]? = some s → s.isOw = true → σ[j]? ≠ some (some (.ref p)) := fun j s e o z => by
    cases s with
    | ow pin o' =>
      obtain ⟨a, ho', h1, h2, h3, _⟩ := W.sl j _ e
      rw [z] at h1; cases h1
      have h3' : upd F.T p ho p = none := h3
      rw [upd_same] at h3'; cases h3'
    | _ => cases o
  refine ⟨by rw [List.length_set, List.length_set]; exact W.len, W.gh, W0.th, W0.tg, fun j s e => ?_, fun j k s s' q ne e1 o1 e2 o2 h1 h2 => ?_⟩
  · by_cases hj : i = j
    · subst hj
      have il : i < Γ.length := by have := (List.getElem?_eq_some_iff.mp e).1; rwa [List.length_set] at this
      rw [List.getElem?_set_self il] at e; cases e
      exact ⟨p, ho, List.getElem?_set_self (by rw [W.len]; exact il), held.2, hT, held.1, ok, fun z => by cases z⟩
    · rw [List.getElem?_set_ne hj] at e ⊢; exact W0.sl j s e
  · by_cases hj : i = j
    · subst hj
      have hk : i ≠ k := ne
      have il : i < Γ.length := by have := (List.getElem?_eq_some_iff.mp e1).1; rwa [List.length_set] at this
      rw [List.getElem?_set_self (by rw [W.len]; exact il)] at h1
      cases h1
      rw [List.getElem?_set_ne hk] at e2 h2
      exact np k s' e2 o2 h2
    · by_cases hk : i = k
      · subst hk
        have il : i < Γ.length := by have := (List.getElem?_eq_some_iff.mp e2).1; rwa [List.length_set] at this
        rw [List.getElem?_set_self (by rw [W.len]; exact il)] at h2
        cases h2
        rw [List.getElem?_set_ne hj] at e1 h1
        exact np j s e1 o1 h1
      · rw [List.getElem?_set_ne hj] at e1 h1
        rw [List.getElem?_set_ne hk] at e2 h2
        exact W.dj j k s s' q ne e1 o1 e2 o2 h1 h2
/-- the owned thing of slot i is taken out of it and held aside -/
theorem Wd.move {i : Nat} {o : Own} (W : Wd K F G σ H Γ) (h : Γ[i]? = some (.ow false o)) : ∃ p ho, σ[i]? = some (some (.ref p)) ∧ F.T p = none ∧ OwnOk K G ho o ∧ Wd K { F with T := upd F.T p ho } G σ H (Γ.set i .un) := by
  obtain ⟨p, ho, h1, h2, h3, h4, h5, h6⟩ := W.sl i _ h
  have il : i < Γ.length := (List.getElem?_eq_some_iff.mp h).1
  have out : ∀ (j : Nat) (s : Slot), (Γ.set i .un)[j]? = some s → s.isOw = true → i ≠ j ∧ Γ[j]? = some s := fun j s e o => by
    have hj : i ≠ j := fun z => by subst z; rw [List.getElem?_set_self il] at e; cases e; cases o
    rw [List.getElem?_set_ne hj] at e
    exact ⟨hj, e⟩
  refine ⟨p, ho, h1, h3, h5, by rw [List.length_set]; exact W.len, W.gh, fun b u e => ?_, fun b u e => ?_, fun j s e => ?_, fun j k s s' q ne e1 o1 e2 o2 q1 q2 => ?_⟩
  · change upd F.T p ho b = some u at e
    by_cases hb : b = p
    · subst hb; rw [upd_same] at e; rw [h4]; exact e
    · rw [upd_ne hb] at e; exact W.th b u e
  · change upd F.T p ho b = some u at e
    by_cases hb : b = p
    · subst hb; exact h2
    · rw [upd_ne hb] at e; exact W.tg b u e
  · by_cases hj : i = j
    · subst hj; rw [List.getElem?_set_self il] at e; cases e; trivial
    · rw [List.getElem?_set_ne hj] at e
      have q := W.sl j s e
      cases s with
      | un => exact q
      | fr t x => exact q
      | ow pin o' =>
        obtain ⟨a, ho', d1, d2, d3, d4, d5, d6⟩ := q
        have ne : a ≠ p := fun z => by subst z; exact W.dj i j _ _ a hj h rfl e rfl h1 d1
        exact ⟨a, ho', d1, d2, (by show upd F.T p ho a = none; rw [upd_ne ne]; exact d3), d4, d5, d6⟩
  · obtain ⟨_, a1⟩ := out j s e1 o1
    obtain ⟨_, a2⟩ := out k s' e2 o2
    exact W.dj j k s s' q ne a1 o1 a2 o2 q1 q2
end
section
variable {X : Cx} {Γ Γ1 Γ2 : List Slot} {e : Expr} {pos pos' : Pos} {t : Ty} {x : t.den} {o : Own} {n : Str}
/-- the name of slot i, what it owns handed on -/
theorem do_move (i : Nat) (h : Γ[i]? = some (.ow false o) := by rfl) (hN : X.N[i]? = some n := by rfl) (hv : Vis X.env.scope n := by first | exact Or.inl rfl | exact Or.inr (Or.inl rfl) | exact Or.inr (Or.inr rfl))
    (hd : (n == ("__debug__" : Str)) = false := by decide) (hcd : (n == ("__classdict__" : Str)) = false := by decide) : DO X (.Name n pos) Γ o (Γ.set i .un) := fun F G σ H W Q q => by
  obtain ⟨p, ho, h1, h2, h3, W'⟩ := W.move h
  exact wpe_of (pe_var hN hv hd hcd) ⟨.ref p, h1, q p ho G H (Same.refl G) W' h2 h3⟩
theorem de_ent {Γ' : List Slot} (h : DE X e Γ t x Γ1) (k : Ent X.K Γ1 Γ') : DE X e Γ t x Γ' := fun F G σ H W Q q => h F G σ H W Q fun v G1 H1 s1 W1 r => by
  obtain ⟨G2, s2, W2⟩ := k F G1 σ H1 W1
  exact q v G2 H1 (s1.trans s2) W2 (rep_mono s2 t v x r)

variable {ρ : Type} {R : RI ρ}
theorem ds_set (i : Nat) (he : DE X e Γ t x Γ1) (hN : X.N.Nodup) (hi : X.N[i]? = some n := by rfl) (hx : Loc X.env.scope n := by first | exact Or.inl rfl | exact Or.inr rfl) (hs : swapsWith e (some (.Name n pos')) pos.line X.env = pure false := by rfl) (hf : X.fn n = true ∨ X.env.scope.names.lookup n = some .local := by first | exact .inl rfl | exact .inr rfl) :
    DS X R (.Assign [.Name n pos'] e pos) Γ (.nx (Γ1.set i (.fr t x))) := fun F G σ H W D q =>
  wps_of (ps_set hN hi hx pe_wp hs hf) (he F G σ H W _ fun v G' H' s W' r => q _ G' H' s (W'.setFr r))
theorem ds_setO (i : Nat) (he : DO X e Γ o Γ1) (hN : X.N.Nodup) (hi : X.N[i]? = some n := by rfl) (hx : Loc X.env.scope n := by first | exact Or.inl rfl | exact Or.inr rfl) (hs : swapsWith e (some (.Name n pos')) pos.line X.env = pure false := by rfl) (hf : X.fn n = true ∨ X.env.scope.names.lookup n = some .local := by first | exact .inl rfl | exact .inr rfl) :
    DS X R (.Assign [.Name n pos'] e pos) Γ (.nx (Γ1.set i (.ow false o))) := fun F G σ H W D q =>
  wps_of (ps_set hN hi hx pe_wp hs hf) (he F G σ H W _ fun p ho G' H' s W' hT ok => q _ G' H' s (W'.setOw hT ok))
theorem ds_if {b : Bool} {c : Expr} {s1 s2 : List Stmt} {o1 o2 : Out ρ} (hc : DT X c Γ b Γ1) (h1 : b = true → DSs X R s1 Γ1 o1) (h2 : b = false → DSs X R s2 Γ1 o2) : DS X R (.If c s1 s2 pos) Γ (.br b o1 o2) := fun F G σ H W D q =>
  wps_of (ps_if pt_wp pss_wp pss_wp) (hc F G σ H W _ fun G' H' s W' => by
    cases b with
    | true => rw [if_pos rfl]; exact h1 rfl F G' σ H' W' D (outOk_mono s (q.1 rfl))
    | false => rw [if_neg Bool.false_ne_true]; exact h2 rfl F G' σ H' W' D (outOk_mono s (q.2 rfl)))
/-- ways that go on alike are joined: Γs of what they bring -/
inductive Nx (K : PySem.W.Frag) {S : Type} (Γs : S → List Slot) {ρ : Type} : Out ρ → S → Prop where
  | nx {Γ : List Slot} {s : S} (h : Ent K Γ (Γs s)) : Nx K Γs (.nx Γ) s
  | br {b : Bool} {o1 o2 : Out ρ} {s1 s2 : S} (h1 : b = true → Nx K Γs o1 s1) (h2 : b = false → Nx K Γs o2 s2) : Nx K Γs (.br b o1 o2) (bif b then s1 else s2)
theorem nx_ok {K : PySem.W.Frag} {S : Type} {Γs : S → List Slot} {o : Out ρ} {s : S} {F : Fx} {D : Ends} {G : Hp} (h : Nx K Γs o s) (q : OutOk K R F D G (.nx (Γs s))) : OutOk K R F D G o := by
  induction h with
  | nx h =>
    intro σ G' H sg W
    obtain ⟨G2, s2, W2⟩ := h F G' σ H W
    exact q σ G2 H (sg.trans s2) W2
  | @br b o1 o2 s1 s2 h1 h2 ih1 ih2 =>
    refine ⟨fun hb => ?_, fun hb => ?_⟩
    · subst hb; exact ih1 rfl q
    · subst hb; exact ih2 rfl q
theorem ds_join {S : Type} (Γs : S → List Slot) {st : Stmt} {o : Out ρ} {s : S} (h : DS X R st Γ o) (k : Nx X.K Γs o s) : DS X R st Γ (.nx (Γs s)) := fun F G σ H W D q => h F G σ H W D (nx_ok k q)
theorem ds_expr (he : DE X e Γ t x Γ1) (hs : swapsWith e none pos.line X.env = pure false := by rfl) : DS X R (.Expr e pos) Γ (.nx Γ1) := fun F G σ H W D q =>
  wps_of (ps_expr pe_wp hs) (he F G σ H W _ fun v G' H' s W' _ => q σ G' H' s W')
theorem ds_pass : DS X R (.Pass pos) Γ (.nx Γ) := fun F G σ H W D q => wps_of ps_pass (q σ G H (Same.refl G) W)
theorem ds_break : DS X R (.Break pos) Γ (.bk Γ) := fun F G σ H W D q => wps_of ps_break (q σ G H (Same.refl G) W)
theorem ds_continue : DS X R (.Continue pos) Γ (.ct Γ) := fun F G σ H W D q => wps_of ps_continue (q σ G H (Same.refl G) W)
end

/-! ### return -/
def riF (K : PySem.W.Frag) (t : Ty) : RI t.den := fun F G σ H v x => (∃ Γ, Wd K F G σ H Γ) ∧ Rep K t G v x
def riB (K : PySem.W.Frag) (t : Ty) : RI (t.den × List Int) := fun F G σ H v x => (∃ Γ, Wd K F G σ H Γ ∧ Γ[0]? = some (.ow true (.lst .int x.2))) ∧ Rep K t G v x.1
def riO (K : PySem.W.Frag) (t : Ty) : RI (List t.den) := fun F G σ H v x => ∃ p ho, v = .ref p ∧ F.T p = none ∧ OwnOk K G ho (.lst t x) ∧ ∃ Γ, Wd K { F with T := upd F.T p ho } G σ H Γ
def riOB (K : PySem.W.Frag) (t : Ty) : RI (List t.den × List Int) := fun F G σ H v x => ∃ p ho, v = .ref p ∧ F.T p = none ∧ OwnOk K G ho (.lst t x.1) ∧ ∃ Γ, Wd K { F with T := upd F.T p ho } G σ H Γ ∧ Γ[0]? = some (.ow true (.lst .int x.2))
section
variable {X : Cx} {Γ Γ1 Γ2 : List Slot} {e : Expr} {pos pos' : Pos} {t : Ty} {x : t.den}
theorem ds_ret (he : DE X e Γ t x Γ1) : DS X (riF X.K t) (.Return (some e) pos) Γ (.rt x) := fun F G σ H W D q =>
  wps_of (ps_ret pe_wp) (he F G σ H W _ fun v G' H' s W' r => q v σ G' H' s ⟨⟨_, W'⟩, r⟩)
theorem ds_retB {y : List Int} (he : DE X e Γ t x Γ1) (h0 : Γ1[0]? = some (.ow true (.lst .int y)) := by rfl) : DS X (riB X.K t) (.Return (some e) pos) Γ (.rt (x, y)) := fun F G σ H W D q =>
  wps_of (ps_ret pe_wp) (he F G σ H W _ fun v G' H' s W' r => q v σ G' H' s ⟨⟨_, W', h0⟩, r⟩)
theorem ds_retO {xs : List t.den} (he : DO X e Γ (.lst t xs) Γ1) : DS X (riO X.K t) (.Return (some e) pos) Γ (.rt xs) := fun F G σ H W D q =>
  wps_of (ps_ret pe_wp) (he F G σ H W _ fun p ho G' H' s W' hT ok => q (.ref p) σ G' H' s ⟨p, ho, rfl, hT, ok, _, W'⟩)
theorem ds_retOB {xs : List t.den} {y : List Int} (he : DO X e Γ (.lst t xs) Γ1) (h0 : Γ1[0]? = some (.ow true (.lst .int y)) := by rfl) : DS X (riOB X.K t) (.Return (some e) pos) Γ (.rt (xs, y)) := fun F G σ H W D q =>
  wps_of (ps_ret pe_wp) (he F G σ H W _ fun p ho G' H' s W' hT ok => q (.ref p) σ G' H' s ⟨p, ho, rfl, hT, ok, _, W', h0⟩)
end

/-! ### a def's end -/
def Out.Rets {ρ : Type} : Out ρ → Prop
  | .rt _ => True
  | .br _ o1 o2 => o1.Rets ∧ o2.Rets
  | .lp _ k => ∀ s, (k s).Rets
  | _ => False
def Lp.fin {S ρ : Type} (r : Lp S ρ) (k : S → ρ) : ρ := match r with
  | .go s => k s
  | .stop s => k s
  | .ret x => x
def Out.val {ρ : Type} (d : ρ) : Out ρ → ρ
  | .rt x => x
  | .br b o1 o2 => bif b then o1.val d else o2.val d
  | .lp r k => r.fin fun s => (k s).val d
  | _ => d
theorem out_end {ρ : Type} {K : PySem.W.Frag} {R : RI ρ} {F : Fx} {D : Ends} {G : Hp} {d : ρ} : ∀ {o : Out ρ}, o.Rets → (∀ v σ G' H, Same G G' → R F G' σ H v (o.val d) → D.rt v H) → OutOk K R F D G o
  | .rt x, _, h => h
  | .br b o1 o2, r, h => ⟨fun hb => out_end r.1 (by subst hb; exact h), fun hb => out_end r.2 (by subst hb; exact h)⟩
  | .lp (.go s) k, r, h => out_end (o := k s) (r s) h
  | .lp (.stop s) k, r, h => out_end (o := k s) (r s) h
  | .lp (.ret x) k, _, h => h
  | .nx _, r, _ => r.elim
  | .bk _, r, _ => r.elim
  | .ct _, r, _ => r.elim
def Arg.slot : Arg → Slot
  | .fr t x => .fr t x
  | _ => .un
/-- what stands beside G: it stays -/
def besides (G H : Hp) : Hp := fun c => match G c with
  | none => H c
  | some _ => none
theorem besides_some {G H : Hp} {c : Addr} {o : HO} (h : besides G H c = some o) : H c = some o ∧ G c = none := by
  unfold besides at h
  cases e : G c with
  | none => rw [e] at h; exact ⟨h, rfl⟩
  | some u => rw [e] at h; cases h
theorem besides_of {G H : Hp} {c : Addr} (h : G c = none) : besides G H c = H c := by
  unfold besides
  rw [h]
theorem args_slots {K : PySem.W.Frag} {F : Fx} {G H : Hp} {vs : List V} {as : List Arg} {m : Nat} (h : Paired (ArgF K G) vs as) :
    ∀ (i : Nat) (s : Slot), (as.map Arg.slot ++ List.replicate m Slot.un)[i]? = some s → SlotOk K F G H ((vs.map some ++ List.replicate m (none : Option V))[i]?) s ∧ s.isOw = false := by
  induction h with
  | nil =>
    intro i s e
    have : s = .un := by
      simp only [List.map_nil, List.nil_append] at e
      have := List.mem_of_getElem? e
      exact List.eq_of_mem_replicate this
    subst this; exact ⟨trivial, rfl⟩
  | @cons v a _ _ r _ ih =>
    intro i s e
    cases i with
    | zero =>
      simp at e
      subst e
      cases a with
      | fr t x => exact ⟨⟨v, by simp, r⟩, rfl⟩
      | _ => exact False.elim r
    | succ i =>
      have := ih i s (by simpa using e)
      simpa using this
theorem start_len {N : List Str} {vs : List V} : L2.start N vs = vs.map some ++ List.replicate (N.length - vs.length) none := rfl
section
variable {X : Cx} {N : List Str} {body : List Stmt} {as : List Arg} {vs : List V} {H : Hp} {Q : VK} {E : XK} {Γ0 : List Slot}
theorem body_F {t : Ty} {o : Out t.den} {d : t.den} (hb : DSs X (riF X.K t) body Γ0 o) (ho : o.Rets) (hp : Pm0 X.K as (.fr t (o.val d)) vs H Q E) (hΓ : Γ0 = as.map Arg.slot ++ List.replicate (N.length - as.length) .un := by rfl) (hl : as.length ≤ N.length := by exact Nat.le_of_ble_eq_true rfl) :
    WPSs X body { nx := fun _ H' => Q .non H', rt := Q } (L2.start N vs) H := by
  obtain ⟨G, sg, pr, k⟩ := hp
  have el := pair_len pr
  have ss := args_slots (F := ⟨besides G H, 0⟩) (H := H) (m := N.length - as.length) pr
  refine hb ⟨besides G H, 0⟩ G (L2.start N vs) H ⟨?_, sg, fun c u e => (besides_some e).1, fun c u e => (besides_some e).2, fun i s e => ?_, fun i j s s' p ne e1 o1 => ?_⟩ _ (out_end (d := d) ho fun v σ G' H' s1 r => ?_)
  · rw [hΓ, start_len]; simp [el]
  · rw [hΓ] at e; rw [start_len, el]; exact (ss i s e).1
  · rw [hΓ] at e1; rw [(ss i s e1).2] at o1; cases o1
  · obtain ⟨⟨Γ, W⟩, r⟩ := r
    refine k v G' H' s1 W.gh (fun c u e => ?_) (fun c u e n => ?_) r
    · cases g : G c with
      | none => exact W.th c u ((besides_of g).trans e)
      | some z => rw [sg c z g] at e; cases e; exact W.gh c _ (s1 c _ g)
    · exact W.tg c u ((besides_of n).trans e)
theorem body_O {t : Ty} {o : Out (List t.den)} {d : List t.den} (hb : DSs X (riO X.K t) body Γ0 o) (ho : o.Rets) (hp : Pm0 X.K as (.ow (.lst t (o.val d))) vs H Q E) (hΓ : Γ0 = as.map Arg.slot ++ List.replicate (N.length - as.length) .un := by rfl) (hl : as.length ≤ N.length := by exact Nat.le_of_ble_eq_true rfl) :
    WPSs X body { nx := fun _ H' => Q .non H', rt := Q } (L2.start N vs) H := by
  obtain ⟨G, sg, pr, k⟩ := hp
  have el := pair_len pr
  have ss := args_slots (F := ⟨besides G H, 0⟩) (H := H) (m := N.length - as.length) pr
  refine hb ⟨besides G H, 0⟩ G (L2.start N vs) H ⟨?_, sg, fun c u e => (besides_some e).1, fun c u e => (besides_some e).2, fun i s e => ?_, fun i j s s' p ne e1 o1 => ?_⟩ _ (out_end (d := d) ho fun v σ G' H' s1 r => ?_)
  · rw [hΓ, start_len]; simp [el]
  · rw [hΓ] at e; rw [start_len, el]; exact (ss i s e).1
  · rw [hΓ] at e1; rw [(ss i s e1).2] at o1; cases o1
  · obtain ⟨p, hop, rfl, hT, ok, Γ, W⟩ := r
    have W0 := W.drop hT
    have hd := W.held
    have pn : H p = none := by
      have hT' : besides G H p = none := hT
      cases g : G p with
      | none => rw [besides_of g] at hT'; exact hT'
      | some z => rw [s1 p z g] at hd; cases hd.2
    refine k (.ref p) G' H' s1 W.gh (fun c u e => ?_) (fun c u e n => ?_) ⟨p, hop, rfl, pn, hd.2, hd.1, ok⟩
    · cases g : G c with
      | none => exact W0.th c u ((besides_of g).trans e)
      | some z => rw [sg c z g] at e; cases e; exact W.gh c _ (s1 c _ g)
    · exact W0.tg c u ((besides_of n).trans e)
/-- all but the box -/
def but (H : Hp) (b : Addr) : Hp := fun c => if c = b then none else H c
theorem but_some {H : Hp} {b c : Addr} {o : HO} (h : but H b c = some o) : H c = some o ∧ c ≠ b := by
  unfold but at h
  split at h
  · cases h
  · rename_i ne; exact ⟨h, ne⟩
theorem box_start {K : PySem.W.Frag} {G : Hp} {b : Addr} {ho : HO} {y : Own} {vs' : List V} (sg : Same G H) (gb : G b = none) (hb : H b = some ho) (ok : OwnOk K G ho y) (pr : Paired (ArgF K G) vs' as) (hΓ : Γ0 = .ow true y :: (as.map Arg.slot ++ List.replicate (N.length - (as.length + 1)) .un)) (hl : as.length + 1 ≤ N.length) :
    Wd K ⟨but (besides G H) b, b⟩ G (L2.start N (.ref b :: vs')) H Γ0 := by
  have el := pair_len pr
  have ss := args_slots (F := ⟨but (besides G H) b, b⟩) (H := H) (m := N.length - (as.length + 1)) pr
  have es : L2.start N (.ref b :: vs') = some (.ref b) :: (vs'.map some ++ List.replicate (N.length - (as.length + 1)) none) := by
    unfold L2.start
    rw [List.length_cons, el]
    rfl
  have nob : ∀ (j : Nat) (s : Slot), Γ0[j + 1]? = some s → s.isOw = false := fun j s e => by
    rw [hΓ] at e
    exact (ss j s (by simpa using e)).2
  refine ⟨?_, sg, fun c u e => (besides_some (but_some e).1).1, fun c u e => (besides_some (but_some e).1).2, fun i s e => ?_, fun i j s s' p ne e1 o1 e2 o2 => ?_⟩
  · rw [hΓ, es]; simp [el]
  · rw [hΓ] at e
    rw [es]
    cases i with
    | zero =>
      simp at e
      subst e
      refine ⟨b, ho, by simp, gb, ?_, hb, ok, fun _ => rfl⟩
      show but (besides G H) b b = none
      unfold but; rw [if_pos rfl]
    | succ i =>
      have := (ss i s (by simpa using e)).1
      simpa using this
  · cases i with
    | zero => cases j with
      | zero => exact absurd rfl ne
      | succ j => rw [nob j s' e2] at o2; cases o2
    | succ i => rw [nob i s e1] at o1; cases o1
theorem but_keep {G G' H' : Hp} {b c : Addr} {u : HO} (sg : Same G H) (s1 : Same G G') (gh : Same G' H') (th : Same (but (besides G H) b) H') (nb : c ≠ b) (e : H c = some u) : H' c = some u := by
  cases g : G c with
  | none =>
    refine th c u ?_
    unfold but; rw [if_neg nb, besides_of g]; exact e
  | some z => rw [sg c z g] at e; cases e; exact gh c _ (s1 c _ g)
theorem body_B {t : Ty} {y : List Int} {o : Out (t.den × List Int)} {d : t.den × List Int} (hb : DSs X (riB X.K t) body Γ0 o) (ho : o.Rets) (hp : Pm1 X.K (.lst .int y) (.lst .int (o.val d).2) as (.fr t (o.val d).1) vs H Q E) (hΓ : Γ0 = .ow true (.lst .int y) :: (as.map Arg.slot ++ List.replicate (N.length - (as.length + 1)) .un) := by rfl) (hl : as.length + 1 ≤ N.length := by exact Nat.le_of_ble_eq_true rfl) :
    WPSs X body { nx := fun _ H' => Q .non H', rt := Q } (L2.start N vs) H := by
  obtain ⟨G, b, ho, vs', rfl, sg, gb, hb', ok, pr, k⟩ := hp
  have W0 := box_start (N := N) sg gb hb' ok pr hΓ hl
  refine hb _ G _ H W0 _ (out_end (d := d) ‹_› fun v σ G' H' s1 r => ?_)
  obtain ⟨⟨Γ, W, h0⟩, r⟩ := r
  obtain ⟨a, ha, e1, e2, e3, e4, e5, e6⟩ := W.sl 0 _ h0
  have ab : a = b := e6 rfl
  subst ab
  refine k v G' H' ha s1 W.gh (fun c u nb e => but_keep sg s1 W.gh W.th nb e) e4 e5 (fun c u e n => ?_) r
  by_cases z : c = a
  · subst z; exact e2
  · refine W.tg c u ?_
    show but (besides G H) a c = some u
    unfold but; rw [if_neg z, besides_of n]; exact e
theorem body_OB {t : Ty} {y : List Int} {o : Out (List t.den × List Int)} {d : List t.den × List Int} (hb : DSs X (riOB X.K t) body Γ0 o) (ho : o.Rets) (hp : Pm1 X.K (.lst .int y) (.lst .int (o.val d).2) as (.ow (.lst t (o.val d).1)) vs H Q E) (hΓ : Γ0 = .ow true (.lst .int y) :: (as.map Arg.slot ++ List.replicate (N.length - (as.length + 1)) .un) := by rfl) (hl : as.length + 1 ≤ N.length := by exact Nat.le_of_ble_eq_true rfl) :
    WPSs X body { nx := fun _ H' => Q .non H', rt := Q } (L2.start N vs) H := by
  obtain ⟨G, b, ho, vs', rfl, sg, gb, hb', ok, pr, k⟩ := hp
  have W0 := box_start (N := N) sg gb hb' ok pr hΓ hl
  refine hb _ G _ H W0 _ (out_end (d := d) ‹_› fun v σ G' H' s1 r => ?_)
  obtain ⟨p, hop, rfl, hT, okp, Γ, W, h0⟩ := r
  have Wd0 := W.drop hT
  have hd := W.held
  obtain ⟨a, ha, e1, e2, e3, e4, e5, e6⟩ := W.sl 0 _ h0
  have ab : a = b := e6 rfl
  subst ab
  have pa : p ≠ a := fun z => by
    subst z
    have e3' : upd (but (besides G H) p) p hop p = none := e3
    rw [upd_same] at e3'; cases e3'
  have pn : H p = none := by
    have hT' : but (besides G H) a p = none := hT
    unfold but at hT'
    rw [if_neg pa] at hT'
    cases g : G p with
    | none => rw [besides_of g] at hT'; exact hT'
    | some z => rw [s1 p z g] at hd; cases hd.2
  refine k (.ref p) G' H' ha s1 W.gh (fun c u nb e => but_keep sg s1 W.gh Wd0.th nb e) e4 e5 (fun c u e n => ?_) ⟨p, hop, rfl, pn, hd.2, hd.1, okp⟩
  by_cases z : c = a
  · subst z; exact e2
  · refine Wd0.tg c u ?_
    show but (besides G H) a c = some u
    unfold but; rw [if_neg z, besides_of n]; exact e
end
end Dn

set_option Elab.async false
set_option linter.all false
set_option maxRecDepth 100000
set_option maxHeartbeats 1000000
/-! Dn, part 6: what is walked; for, while, comprehensions. -/
namespace Dn
open PySem PySem.Spec PyProof.Rows L2 TL

/-! ### targets -/
def WPG (X : Cx) (tg : Expr) : TG := fun v σ H Q => ∀ (pins : List (Addr × Obj)) (s : Shared) (u : Value), Inv X pins σ H s → RelV v u → wpAny (model X.prog X.w) X.A (assign tg X.env u) (fun _ s' => ∃ σ' H', Inv X pins σ' H' s' ∧ Q σ' H') X.xe s
theorem pg_wp {X : Cx} {tg : Expr} : PG X tg (WPG X tg) := ⟨fun pins s σ H v u Q I r h => h pins s u I r⟩
theorem wpg_of {X : Cx} {tg : Expr} {g : TG} {v : V} {σ : L2.St} {H : Hp} {Q : L2.St → Hp → Prop} (p : PG X tg g) (h : g v σ H Q) : WPG X tg v σ H Q := fun pins s u I r => p.run pins s σ H v u Q I r h
/-- σ' is σ but at the places tgs -/
def At' (tgs : List Nat) (σ σ' : L2.St) : Prop := σ'.length = σ.length ∧ ∀ i, i ∉ tgs → σ'[i]? = σ[i]?
theorem at_refl {tgs : List Nat} {σ : L2.St} : At' tgs σ σ := ⟨rfl, fun _ _ => rfl⟩
theorem at_set {i : Nat} {v : Option V} {σ : L2.St} : At' [i] σ (σ.set i v) := ⟨by simp, fun j h => by
  have : i ≠ j := fun z => h (by simp [z])
  rw [List.getElem?_set_ne this]⟩
theorem at_trans {a b : List Nat} {σ σ1 σ2 : L2.St} (h1 : At' a σ σ1) (h2 : At' b σ1 σ2) : At' (a ++ b) σ σ2 := ⟨h2.1.trans h1.1, fun i h => by
  rw [List.mem_append, not_or] at h
  exact (h2.2 i h.2).trans (h1.2 i h.1)⟩
/-- a target takes a thing of type t -/
def EvG (K : PySem.W.Frag) (g : TG) (t : Ty) (B : t.den → List Slot → List Slot) (tgs : List Nat) : Prop :=
  ∀ (F : Fx) (G : Hp) (σ : L2.St) (H : Hp) (Γ : List Slot) (v : V) (x : t.den), Wd K F G σ H Γ → Rep K t G v x → ∀ Q : L2.St → Hp → Prop, (∀ σ', At' tgs σ σ' → Wd K F G σ' H (B x Γ) → Q σ' H) → g v σ H Q
/-- .. several things, one after another -/
def EvGs (K : PySem.W.Frag) (g : TGs) : (ts : List Ty) → (tgs : List Nat) → Prop := fun ts tgs => ts.length = tgs.length ∧
  ∀ (F : Fx) (G : Hp) (σ : L2.St) (H : Hp) (Γ : List Slot) (vs : List V) (as : List Arg), Wd K F G σ H Γ → Paired (ArgF K G) vs as → as.map (fun a => match a with | .fr t _ => some t | _ => none) = ts.map some → ∀ Q : L2.St → Hp → Prop,
    (∀ σ', At' tgs σ σ' → Wd K F G σ' H ((tgs.zip as).foldl (fun Γ p => Γ.set p.1 p.2.slot) Γ) → Q σ' H) → g vs σ H Q
section
variable {X : Cx} {pos : Pos} {n : Str} {es : List Expr} {t A B C D : Ty}
theorem eg_name (i : Nat) (t : Ty) : EvG X.K (gName i) t (fun x Γ => Γ.set i (.fr t x)) [i] := fun F G σ H Γ v x W r Q q => q _ at_set (W.setFr r)
theorem egs_nil : EvGs X.K gNil [] [] := ⟨rfl, fun F G σ H Γ vs as W p e Q q => by
  cases as with
  | nil => cases p; exact ⟨rfl, q σ at_refl W⟩
  | cons a r => cases e⟩
theorem egs_cons {g : TGs} {ts : List Ty} {tgs : List Nat} (i : Nat) (t : Ty) (h : EvGs X.K g ts tgs) : EvGs X.K (gCons (gName i) g) (t :: ts) (i :: tgs) := ⟨by simp [h.1], fun F G σ H Γ vs as W p e Q q => by
  cases p with
  | nil => cases e
  | @cons v a vs as r p =>
    simp only [List.map_cons, List.cons.injEq] at e
    cases a with
    | fr t' x =>
      refine ⟨v, vs, rfl, ?_⟩
      exact h.2 F G _ H _ vs as (W.setFr r) p e.2 Q fun σ' a' W' => q σ' (by simpa using at_trans at_set a') W'
    | _ => exact False.elim r⟩
theorem eg_2 (i j : Nat) (A B : Ty) : EvG X.K (gTup X.K 2 (gCons (gName i) (gCons (gName j) gNil))) (.p2 A B) (fun x Γ => (Γ.set i (.fr A x.1)).set j (.fr B x.2)) [i, j] := fun F G σ H Γ v x W r Q q => by
  obtain ⟨p, v1, v2, rfl, h1, h2, h3⟩ := r
  refine ⟨p, [v1, v2], rfl, sqt_mono W.gh h1, rfl, ?_⟩
  exact (egs_cons i A (egs_cons j B egs_nil)).2 F G σ H Γ [v1, v2] [.fr A x.1, .fr B x.2] W (.cons h2 (.cons h3 .nil)) rfl Q q
theorem eg_3 (i j k : Nat) (A B C : Ty) : EvG X.K (gTup X.K 3 (gCons (gName i) (gCons (gName j) (gCons (gName k) gNil)))) (.p3 A B C) (fun x Γ => ((Γ.set i (.fr A x.1)).set j (.fr B x.2.1)).set k (.fr C x.2.2)) [i, j, k] := fun F G σ H Γ v x W r Q q => by
  obtain ⟨p, v1, v2, v3, rfl, h1, h2, h3, h4⟩ := r
  refine ⟨p, [v1, v2, v3], rfl, sqt_mono W.gh h1, rfl, ?_⟩
  exact (egs_cons i A (egs_cons j B (egs_cons k C egs_nil))).2 F G σ H Γ [v1, v2, v3] [.fr A x.1, .fr B x.2.1, .fr C x.2.2] W (.cons h2 (.cons h3 (.cons h4 .nil))) rfl Q q
theorem eg_4 (i j k l : Nat) (A B C D : Ty) : EvG X.K (gTup X.K 4 (gCons (gName i) (gCons (gName j) (gCons (gName k) (gCons (gName l) gNil))))) (.p4 A B C D) (fun x Γ => (((Γ.set i (.fr A x.1)).set j (.fr B x.2.1)).set k (.fr C x.2.2.1)).set l (.fr D x.2.2.2)) [i, j, k, l] := fun F G σ H Γ v x W r Q q => by
  obtain ⟨p, v1, v2, v3, v4, rfl, h1, h2, h3, h4, h5⟩ := r
  refine ⟨p, [v1, v2, v3, v4], rfl, sqt_mono W.gh h1, rfl, ?_⟩
  exact (egs_cons i A (egs_cons j B (egs_cons k C (egs_cons l D egs_nil)))).2 F G σ H Γ [v1, v2, v3, v4] [.fr A x.1, .fr B x.2.1, .fr C x.2.2.1, .fr D x.2.2.2] W (.cons h2 (.cons h3 (.cons h4 (.cons h5 .nil)))) rfl Q q
end

/-! ### what is walked -/
structure ItOk (K : PySem.W.Frag) (J : It) (g : TG) (G : Hp) {α : Type} (ys : List α) (B : α → List Slot → List Slot) (tgs : List Nat) : Prop where
  go : ∀ i G2 H2, Same G G2 → Same G2 H2 → i < ys.length → J.go i H2
  stop : ∀ G2 H2, Same G G2 → Same G2 H2 → J.stop ys.length H2
  yld : ∀ (F : Fx) i y G2 σ2 H2 Γ2 v H3 (Q : L2.St → Hp → Prop), Same G G2 → Wd K F G2 σ2 H2 Γ2 → ys[i]? = some y → J.yld i H2 v H3 → (∀ G3 σ3 H4, Same G2 G3 → At' tgs σ2 σ3 → Wd K F G3 σ3 H4 (B y Γ2) → Q σ3 H4) → g v σ2 H3 Q
def EvI (K : PySem.W.Frag) (wi : TI) (g : TG) (Γ : List Slot) {α : Type} (ys : List α) (B : α → List Slot → List Slot) (tgs : List Nat) (Γ' : List Slot) : Prop :=
  ∀ (F : Fx) (G : Hp) (σ : L2.St) (H : Hp), Wd K F G σ H Γ → ∀ R : It → Hp → Prop, (∀ J G' H', Same G G' → Wd K F G' σ H' Γ' → ItOk K J g G' ys B tgs → R J H') → wi σ H R
def WPI (X : Cx) (tg iter : Expr) : TI := fun σ H R => ∀ (pins : List (Addr × Obj)) (s : Shared), Inv X pins σ H s → wpAny (model X.prog X.w) X.A (eval iter X.env) (fun v s1 => wpAny (model X.prog X.w) X.A (pyIter v) (PIE X pins σ tg R) X.xe s1) X.xe s
theorem pi_wp {X : Cx} {tg iter : Expr} : PI X tg iter (WPI X tg iter) := ⟨fun pins s σ H R I h => h pins s I⟩
theorem wpi_of {X : Cx} {tg iter : Expr} {wi : TI} {σ : L2.St} {H : Hp} {R : It → Hp → Prop} (p : PI X tg iter wi) (h : wi σ H R) : WPI X tg iter σ H R := fun pins s I => p.run pins s σ H R I h
/-- the for's head: source, target (its form g), the items, what each brings -/
abbrev DI (X : Cx) (tg iter : Expr) (g : TG) (Γ : List Slot) {α : Type} (ys : List α) (B : α → List Slot → List Slot) (tgs : List Nat) (Γ' : List Slot) : Prop := EvI X.K (WPI X tg iter) g Γ ys B tgs Γ'
/-- lo, lo + 1, .. -/
def rng (lo hi : Int) : List Int := (List.range (hi - lo).toNat).map fun (k : Nat) => lo + (k : Int)
theorem rng_len {lo hi : Int} : (rng lo hi).length = (hi - lo).toNat := by simp [rng]
theorem rng_get {lo hi : Int} {i : Nat} {y : Int} (h : (rng lo hi)[i]? = some y) : y = lo + (i : Int) := by
  unfold rng at h
  rw [List.getElem?_map] at h
  cases e : (List.range (hi - lo).toNat)[i]? with
  | none => rw [e] at h; cases h
  | some k =>
    rw [e] at h
    have := List.getElem?_range (n := (hi - lo).toNat) (i := i) (by have := (List.getElem?_eq_some_iff.mp e).1; simpa using this)
    rw [this] at e; cases e
    exact (Option.some.inj h).symm
def chars (x : List Nat) : List (List Nat) := x.map fun c => [c]
section
variable {X : Cx} {tg e a b : Expr} {pos p tpos : Pos} {Γ Γ1 Γ2 : List Slot} {t : Ty} {xs : List t.den} {g : TG} {B : t.den → List Slot → List Slot} {tgs : List Nat}
theorem di_list (he : DE X e Γ (.lst t) xs Γ1) (hg : EvG X.K g t B tgs) : DI X tg e g Γ xs B tgs Γ1 := fun F G σ H W R q =>
  wpi_of (pi_list pe_wp) (he F G σ H W _ fun v G' H' s W' r => by
    obtain ⟨a, vs, rfl, h1, h2⟩ := r
    have el := pair_len h2
    refine ⟨a, rfl, ⟨vs, .inl (rd_mono W'.gh h1)⟩, q _ G' H' s W' ⟨fun i G2 H2 s1 s2 hi => ?_, fun G2 H2 s1 s2 => ⟨vs, (.inl (rd_mono (s1.trans s2) h1)), Nat.le_of_eq el⟩, fun F i y G2 σ2 H2 Γ2 v H3 Q s1 W2 hy y' k => ?_⟩⟩
    · exact ⟨vs, vs[i]'(by omega), (.inl (rd_mono (s1.trans s2) h1)), List.getElem?_eq_getElem (by omega)⟩
    · obtain ⟨e1, e2⟩ := y'
      subst e1
      have e3 := e2 vs (.inl (rd_mono (s1.trans W2.gh) h1))
      obtain ⟨v', e4, e5⟩ := pair_get h2 hy
      rw [e3] at e4; cases e4
      exact hg F G2 σ2 _ Γ2 v y W2 (rep_mono s1 t v y e5) Q fun σ' a' W3 => k G2 σ' _ (Same.refl G2) a' W3)
theorem di_tup (he : DE X e Γ (.tup t) xs Γ1) (hg : EvG X.K g t B tgs) : DI X tg e g Γ xs B tgs Γ1 := fun F G σ H W R q =>
  wpi_of (pi_tup pe_wp) (he F G σ H W _ fun v G' H' s W' r => by
    obtain ⟨a, vs, rfl, h1, h2⟩ := r
    have el := pair_len h2
    refine ⟨a, rfl, ⟨vs, sqt_mono W'.gh h1⟩, q _ G' H' s W' ⟨fun i G2 H2 s1 s2 hi => ?_, fun G2 H2 s1 s2 => ⟨vs, sqt_mono (s1.trans s2) h1, Nat.le_of_eq el⟩, fun F i y G2 σ2 H2 Γ2 v H3 Q s1 W2 hy y' k => ?_⟩⟩
    · exact ⟨vs, vs[i]'(by omega), sqt_mono (s1.trans s2) h1, List.getElem?_eq_getElem (by omega)⟩
    · obtain ⟨e1, e2⟩ := y'
      subst e1
      have e3 := e2 vs (sqt_mono (s1.trans W2.gh) h1)
      obtain ⟨v', e4, e5⟩ := pair_get h2 hy
      rw [e3] at e4; cases e4
      exact hg F G2 σ2 _ Γ2 v y W2 (rep_mono s1 t v y e5) Q fun σ' a' W3 => k G2 σ' _ (Same.refl G2) a' W3)
theorem di_str {x : List Nat} {B : List Nat → List Slot → List Slot} (he : DE X e Γ .str x Γ1) (hg : EvG X.K g .str B tgs) : DI X tg e g Γ (chars x) B tgs Γ1 := fun F G σ H W R q =>
  wpi_of (pi_str pe_wp) (he F G σ H W _ fun v G' H' s W' r => by
    refine ⟨⟨x.toArray⟩, r, q _ G' H' s W' ⟨fun i G2 H2 s1 s2 hi => ?_, fun G2 H2 s1 s2 => ?_, fun F i y G2 σ2 H2 Γ2 v H3 Q s1 W2 hy y' k => ?_⟩⟩
    · have : i < x.length := by simpa [chars] using hi
      show i < (x.toArray).size
      simpa using this
    · show (x.toArray).size ≤ _
      simp [chars]
    · obtain ⟨e1, c, e2, e3⟩ := y'
      subst e1 e3
      have e2' : x[i]? = some c := by simpa using e2
      unfold chars at hy
      rw [List.getElem?_map, e2'] at hy
      cases hy
      exact hg F G2 σ2 _ Γ2 (.str ⟨#[c]⟩) [c] W2 rfl Q fun σ' a' W3 => k G2 σ' _ (Same.refl G2) a' W3)
/-- range's ends -/
def RngOk (i : Int) : Prop := -1000000 ≤ i ∧ i ≤ 1000000
theorem it_range {K : PySem.W.Frag} {lo hi : Int} {G : Hp} {B : Int → List Slot → List Slot} (hg : EvG K g .int B tgs) : ItOk K (Itr lo (hi - lo).toNat) g G (rng lo hi) B tgs where
  go := fun i G2 H2 _ _ h => by rw [rng_len] at h; exact h
  stop := fun G2 H2 _ _ => by rw [rng_len]; exact Nat.le_refl _
  yld := fun F i y G2 σ2 H2 Γ2 v H3 Q s1 W2 hy y' k => by
    obtain ⟨e1, e2⟩ := y'
    subst e1
    have := rng_get hy
    subst this
    subst e2
    exact hg F G2 σ2 _ Γ2 _ _ W2 rfl Q fun σ' a' W3 => k G2 σ' _ (Same.refl G2) a' W3
theorem di_range1 {n : Int} {B : Int → List Slot → List Slot} (hm : X.mg "range" = none) (h : RngOk n) (ha : DE X a Γ .int n Γ1) (hg : EvG X.K g .int B tgs) (hgl : Gl X "range" := by rfl) (hs : starEach [a] X.env = [(false, eval a X.env)] := by rfl) :
    DI X tg (.Call (.Name "range" p) [a] [] pos) g Γ (rng 0 n) B tgs Γ1 := fun F G σ H W R q =>
  wpi_of (pi_range1 hgl hm pa_wp hs) ((da_cons ha da_nil (by rw [hs]; rfl)) F G σ H W _ fun vs G' H' s W' r => by
    cases r with
    | @cons v _ _ _ r r' =>
      cases r'
      have r : v = .int n := r
      subst r
      obtain ⟨h1, h2⟩ := h
      refine ⟨n, rfl, by omega, by omega, ?_⟩
      have := q (Itr 0 (n - 0).toNat) G' H' s W' (it_range hg)
      simpa using this)
theorem di_range2 {lo hi : Int} {B : Int → List Slot → List Slot} (hm : X.mg "range" = none) (h : RngOk lo ∧ RngOk hi) (ha : DE X a Γ .int lo Γ1) (hb : DE X b Γ1 .int hi Γ2) (hg : EvG X.K g .int B tgs) (hgl : Gl X "range" := by rfl) (hs : starEach [a, b] X.env = [(false, eval a X.env), (false, eval b X.env)] := by rfl) (hs2 : starEach [b] X.env = [(false, eval b X.env)] := by rfl) :
    DI X tg (.Call (.Name "range" p) [a, b] [] pos) g Γ (rng lo hi) B tgs Γ2 := fun F G σ H W R q =>
  wpi_of (pi_range2 hgl hm pa_wp hs hs2) ((da_cons ha (da_cons hb da_nil (by rw [hs2]; rfl)) (by rw [hs, hs2])) F G σ H W _ fun vs G' H' s W' r => by
    cases r with
    | @cons v _ _ _ r r' =>
      cases r' with
      | @cons w _ _ _ r2 r' =>
        cases r'
        have r : v = .int lo := r
        have r2 : w = .int hi := r2
        subst r r2
        obtain ⟨⟨h1, h2⟩, h3, h4⟩ := h
        exact ⟨lo, hi, rfl, ⟨by omega, by omega, by omega, by omega⟩, q _ G' H' s W' (it_range hg)⟩)
/-- enumerate(xs), xs a list -/
def enum {α : Type} (xs : List α) : List (Int × α) := xs.zipIdx.map fun p => ((p.2 : Int), p.1)
theorem enum_get {α : Type} {xs : List α} {i : Nat} {y : Int × α} (h : (enum xs)[i]? = some y) : y.1 = (i : Int) ∧ xs[i]? = some y.2 := by
  unfold enum at h
  rw [List.getElem?_map, List.getElem?_zipIdx] at h
  cases e : xs[i]? with
  | none => rw [e] at h; cases h
  | some x => rw [e] at h; cases h; simp
theorem enum_len {α : Type} {xs : List α} : (enum xs).length = xs.length := by simp [enum]
theorem di_enumL {elts : List Expr} {kk : Nat} {B : Int × t.den → List Slot → List Slot} (hm : X.mg "enumerate" = none) (he : DE X e Γ (.lst t) xs Γ1) (hg : EvG X.K g (.p2 .int t) B tgs) (hgl : Gl X "enumerate" := by rfl) (hs : starEach [e] X.env = [(false, eval e X.env)] := by rfl) :
    DI X (.Tuple elts kk tpos) (.Call (.Name "enumerate" p) [e] [] pos) g Γ (enum xs) B tgs Γ1 := fun F G σ H W R q =>
  wpi_of (pi_enum hgl hm pa_wp hs) ((da_cons he da_nil (by rw [hs]; rfl)) F G σ H W _ fun vs G' H' s W' r => by
    cases r with
    | @cons v _ _ _ r r' =>
      cases r'
      obtain ⟨a, vs, rfl, h1, h2⟩ := r
      have el := pair_len h2
      refine ⟨a, vs, rfl, .inl (rd_mono W'.gh h1), q _ G' H' s W' ⟨fun i G2 H2 s1 s2 hi => ?_, fun G2 H2 s1 s2 => ⟨vs, (.inl (rd_mono (s1.trans s2) h1)), by rw [enum_len]; exact Nat.le_of_eq el⟩, fun F i y G2 σ2 H2 Γ2 v H3 Q s1 W2 hy y' k => ?_⟩⟩
      · rw [enum_len] at hi
        exact ⟨vs, vs[i]'(by omega), (.inl (rd_mono (s1.trans s2) h1)), List.getElem?_eq_getElem (by omega)⟩
      · obtain ⟨T, x, rfl, nT, rfl, e2⟩ := y'
        have e3 := e2 vs (.inl (rd_mono (s1.trans W2.gh) h1))
        obtain ⟨y1, y2⟩ := y
        obtain ⟨f1, f2⟩ := enum_get hy
        simp only at f1 f2
        subst f1
        obtain ⟨v', e4, e5⟩ := pair_get h2 f2
        rw [e3] at e4; cases e4
        have sm := same_upd (o := .tup [.int (i : Nat), x]) (W2.gn nT)
        exact hg F _ σ2 _ Γ2 (.ref T) ((i : Int), y2) (W2.newG nT) ⟨T, _, x, rfl, .inl (.inl upd_same), rfl, rep_mono (s1.trans sm) t x y2 e5⟩ Q fun σ' a' W3 => k _ σ' _ sm a' W3)
end

/-! ### for -/
def AllF {S α : Type} (P : S → α → Prop) (f : S → α → S) : S → List α → Prop
  | _, [] => True
  | s, y :: ys => P s y ∧ AllF P f (f s y) ys
def Lp.step {S ρ : Type} (r : Lp S ρ) (k : S → Lp S ρ) : Lp S ρ := match r with
  | .go s => k s
  | .stop s => .stop s
  | .ret x => .ret x
def Lp.onGo {S ρ : Type} (r : Lp S ρ) (k : S → Prop) : Prop := match r with
  | .go s => k s
  | _ => True
def loopL {S α ρ : Type} (f : S → α → Lp S ρ) : S → List α → Lp S ρ
  | s, [] => .go s
  | s, y :: ys => (f s y).step fun s' => loopL f s' ys
def AllL {S α ρ : Type} (P : S → α → Prop) (f : S → α → Lp S ρ) : S → List α → Prop
  | _, [] => True
  | s, y :: ys => P s y ∧ (f s y).onGo fun s' => AllL P f s' ys
def LpOk {S ρ : Type} (K : PySem.W.Frag) (R : RI ρ) (F : Fx) (D : Ends) (Γs : S → List Slot) (G : Hp) : Lp S ρ → Prop
  | .go s => (∀ σ G' H, Same G G' → Wd K F G' σ H (Γs s) → D.nx σ H) ∧ ∀ σ G' H, Same G G' → Wd K F G' σ H (Γs s) → D.ct σ H
  | .stop s => ∀ σ G' H, Same G G' → Wd K F G' σ H (Γs s) → D.bk σ H
  | .ret x => ∀ v σ G' H, Same G G' → R F G' σ H v x → D.rt v H
/-- how a turn ends -/
def Turns {S ρ : Type} (K : PySem.W.Frag) (R : RI ρ) (Γs : S → List Slot) (o : Out ρ) (r : Lp S ρ) : Prop := ∀ (F : Fx) (D : Ends) (G : Hp), LpOk K R F D Γs G r → OutOk K R F D G o
def Lp.then {S S' ρ : Type} (r : Lp S ρ) (k : S → Lp S' ρ) : Lp S' ρ := match r with
  | .go s => k s
  | .stop s => k s
  | .ret x => .ret x
section
variable {K : PySem.W.Frag} {S ρ : Type} {R : RI ρ} {Γs : S → List Slot} {o o1 o2 : Out ρ} {s s1 s2 : S} {r1 r2 : Lp S ρ} {Γ : List Slot}
theorem tn_nx (h : Ent K Γ (Γs s)) : Turns K R Γs (.nx Γ) (.go s) := fun F D G q σ G' H sg W => by
  obtain ⟨G2, e, W2⟩ := h F G' σ H W
  exact q.1 σ G2 H (sg.trans e) W2
theorem tn_ct (h : Ent K Γ (Γs s)) : Turns K R Γs (.ct Γ) (.go s) := fun F D G q σ G' H sg W => by
  obtain ⟨G2, e, W2⟩ := h F G' σ H W
  exact q.2 σ G2 H (sg.trans e) W2
theorem tn_bk (h : Ent K Γ (Γs s)) : Turns K R Γs (.bk Γ) (.stop s) := fun F D G q σ G' H sg W => by
  obtain ⟨G2, e, W2⟩ := h F G' σ H W
  exact q σ G2 H (sg.trans e) W2
theorem tn_rt {x : ρ} : Turns K R Γs (.rt x) (.ret x) := fun F D G q => q
theorem tn_br {b : Bool} (h1 : b = true → Turns K R Γs o1 r1) (h2 : b = false → Turns K R Γs o2 r2) : Turns K R Γs (.br b o1 o2) (bif b then r1 else r2) := fun F D G q =>
  ⟨fun hb => by subst hb; exact h1 rfl F D G q, fun hb => by subst hb; exact h2 rfl F D G q⟩
theorem tn_brG {b : Bool} (h1 : b = true → Turns K R Γs o1 (.go s1)) (h2 : b = false → Turns K R Γs o2 (.go s2)) : Turns K R Γs (.br b o1 o2) (.go (bif b then s1 else s2)) := fun F D G q =>
  ⟨fun hb => by subst hb; exact h1 rfl F D G q, fun hb => by subst hb; exact h2 rfl F D G q⟩
theorem tn_lp {S' : Type} {r : Lp S' ρ} {k : S' → Out ρ} {k' : S' → Lp S ρ} (h : ∀ s, Turns K R Γs (k s) (k' s)) : Turns K R Γs (.lp r k) (r.then k') := fun F D G q => by
  cases r with
  | go s => exact h s F D G q
  | stop s => exact h s F D G q
  | ret x => exact q
end
section
variable {X : Cx} {ρ S α : Type} {R : RI ρ} {tg iter : Expr} {g : TG} {body : List Stmt} {pos : Pos} {Γ Γ1 : List Slot} {ys : List α} {B : α → List Slot → List Slot} {tgs : List Nat} {P : S → α → Prop}
theorem ds_forL (Γs : S → List Slot) {s0 : S} {f : S → α → Lp S ρ} (hi : DI X tg iter g Γ ys B tgs Γ1) (h0 : Ent X.K Γ1 (Γs s0)) (hP : AllL P f s0 ys)
    (hb : ∀ s y, P s y → ∃ o, DSs X R body (B y (Γs s)) o ∧ Turns X.K R Γs o (f s y)) (hg : PG X tg g) (hp : PassesOwn (model X.prog X.w) X.A X.env X.xe) (hc : X.calm = true := by rfl) (hs : ∀ x, foldedSetIterable iter X.env x = pure x := by intro _; rfl) :
    DS X R (.For tg iter body [] pos) Γ (.lp (loopL f s0 ys) fun s => .nx (Γs s)) := fun F G σ H W D q =>
  wps_of (ps_for hp hc pi_wp hg pss_wp hs) (hi F G σ H W _ fun J G1 H1 sg1 W1 it => by
    obtain ⟨G2, e2, W2⟩ := h0 F G1 σ H1 W1
    -- the word: what is left to take, and the end that it comes to
    refine ⟨fun i m σ' H' => m = ys.length - i ∧ i ≤ ys.length ∧ ∃ (G' : Hp) (s : S), Same G2 G' ∧ Wd X.K F G' σ' H' (Γs s) ∧ AllL P f s (ys.drop i) ∧ loopL f s0 ys = loopL f s (ys.drop i), ⟨ys.length, by omega, by omega, G2, s0, Same.refl _, W2, hP, rfl⟩, ?_⟩
    rintro i m σ' H' ⟨rfl, hi', G', s, sg', W', hA, hE⟩
    have sG : Same G G' := (sg1.trans e2).trans sg'
    by_cases hl : i < ys.length
    · refine .inr ⟨it.go i G' H' (e2.trans sg') W'.gh hl, ?_⟩
      have hd : ys.drop i = ys[i] :: ys.drop (i + 1) := List.drop_eq_getElem_cons hl
      rw [hd] at hA hE
      obtain ⟨o, ho, ht⟩ := hb s ys[i] hA.1
      have hA2 := hA.2
      have hE2 : loopL f s0 ys = (f s ys[i]).step fun s' => loopL f s' (ys.drop (i + 1)) := hE.trans (by rw [loopL])
      refine ⟨fun σ3 H3 => ∃ (G3 : Hp) (s' : S), Same G2 G3 ∧ Wd X.K F G3 σ3 H3 (Γs s') ∧ AllL P f s' (ys.drop (i + 1)) ∧ loopL f s0 ys = loopL f s' (ys.drop (i + 1)), fun σ3 H3 ⟨G3, s', a1, a2, a3, a4⟩ => ⟨ys.length - (i + 1), by omega, rfl, hl, G3, s', a1, a2, a3, a4⟩, fun v H3 y => ?_⟩
      refine it.yld F i ys[i] G' σ' H' (Γs s) v H3 _ (e2.trans sg') W' (List.getElem?_eq_getElem hl) y fun G3 σ3 H4 sg3 at3 W3 => ?_
      refine ho F G3 σ3 H4 W3 _ (ht F _ G3 ?_)
      cases hr : f s ys[i] with
      | go s' =>
        rw [hr] at hA2 hE2
        exact ⟨fun σ5 G5 H5 sg5 W5 => ⟨G5, s', (sg'.trans sg3).trans sg5, W5, hA2, hE2⟩, fun σ5 G5 H5 sg5 W5 => ⟨G5, s', (sg'.trans sg3).trans sg5, W5, hA2, hE2⟩⟩
      | stop s' =>
        rw [hr] at hE2
        intro σ5 G5 H5 sg5 W5
        rw [hE2] at q
        exact q σ5 G5 H5 ((sG.trans sg3).trans sg5) W5
      | ret x =>
        rw [hr] at hE2
        intro v5 σ5 G5 H5 sg5 r5
        rw [hE2] at q
        exact q v5 σ5 G5 H5 ((sG.trans sg3).trans sg5) r5
    · have e : i = ys.length := by omega
      subst e
      rw [List.drop_length] at hE
      refine .inl ⟨it.stop G' H' (e2.trans sg') W'.gh, ?_⟩
      rw [hE] at q
      exact q σ' G' H' sG W')
theorem loopL_fold {f : S → α → S} : ∀ {s : S} {ys : List α}, loopL (fun s y => (Lp.go (f s y) : Lp S ρ)) s ys = .go (ys.foldl f s)
  | s, [] => rfl
  | s, y :: ys => by
    show loopL (fun s y => (Lp.go (f s y) : Lp S ρ)) (f s y) ys = _
    rw [loopL_fold]
    rfl
theorem allL_of {f : S → α → S} : ∀ {s : S} {ys : List α}, AllF P f s ys → AllL P (fun s y => (Lp.go (f s y) : Lp S ρ)) s ys
  | _, [], _ => trivial
  | _, _ :: _, h => ⟨h.1, allL_of h.2⟩
theorem ds_for (Γs : S → List Slot) {s0 : S} {f : S → α → S} (hi : DI X tg iter g Γ ys B tgs Γ1) (h0 : Ent X.K Γ1 (Γs s0)) (hP : AllF P f s0 ys)
    (hb : ∀ s y, P s y → ∃ o, DSs X R body (B y (Γs s)) o ∧ Turns X.K R Γs o (.go (f s y))) (hg : PG X tg g) (hp : PassesOwn (model X.prog X.w) X.A X.env X.xe) (hc : X.calm = true := by rfl) (hs : ∀ x, foldedSetIterable iter X.env x = pure x := by intro _; rfl) :
    DS X R (.For tg iter body [] pos) Γ (.nx (Γs (ys.foldl f s0))) := fun F G σ H W D q =>
  ds_forL Γs hi h0 (allL_of hP) hb hg hp hc hs F G σ H W D (by rw [loopL_fold]; exact q)
end

/-! ### while -/
def whileN {S : Type} (c : S → Bool) (f : S → S) : Nat → S → S
  | 0, s => s
  | n + 1, s => bif c s then whileN c f n (f s) else s
/-- within n turns it ends; Pc, P: what the test and the body ask -/
def OkW {S : Type} (Pc P : S → Prop) (c : S → Bool) (f : S → S) : Nat → S → Prop
  | 0, s => Pc s ∧ c s = false
  | n + 1, s => Pc s ∧ (c s = true → P s ∧ OkW Pc P c f n (f s))
section
variable {X : Cx} {ρ S : Type} {R : RI ρ} {tc : Expr} {body : List Stmt} {pos : Pos} {Γ Γ1 : List Slot} {Pc P : S → Prop}
theorem ds_while (Γs : S → List Slot) {s0 : S} {c : S → Bool} {f : S → S} {n : Nat} (h0 : Ent X.K Γ (Γs s0)) (hP : OkW Pc P c f n s0) (hc : ∀ s, Pc s → DT X tc (Γs s) (c s) (Γs s))
    (hb : ∀ s, P s → c s = true → ∃ o, DSs X R body (Γs s) o ∧ Turns X.K R Γs o (.go (f s))) (hp : PassesOwn (model X.prog X.w) X.A X.env X.xe) : DS X R (.While tc body [] pos) Γ (.nx (Γs (whileN c f n s0))) := fun F G σ H W D q =>
  wps_of (ps_while hp pt_wp pss_wp) (by
    obtain ⟨G2, e2, W2⟩ := h0 F G σ H W
    refine ⟨fun m σ' H' => ∃ (G' : Hp) (s : S), Same G G' ∧ Wd X.K F G' σ' H' (Γs s) ∧ OkW Pc P c f m s ∧ whileN c f n s0 = whileN c f m s, ⟨n, G2, s0, e2, W2, hP, rfl⟩, ?_⟩
    rintro m σ' H' ⟨G', s, sg, W', hA, hE⟩
    have hPc : Pc s := by cases m with
      | zero => exact hA.1
      | succ m => exact hA.1
    refine hc s hPc F G' σ' H' W' _ fun G3 H3 sg3 W3 => ?_
    cases hcs : c s with
    | true =>
      rw [if_pos rfl]
      cases m with
      | zero => rw [hA.2] at hcs; cases hcs
      | succ m =>
        obtain ⟨hPs, hA2⟩ := hA.2 hcs
        have hE2 : whileN c f n s0 = whileN c f m (f s) := by
          rw [hE]
          show (bif c s then whileN c f m (f s) else s) = _
          rw [hcs]
          rfl
        obtain ⟨o, ho, ht⟩ := hb s hPs hcs
        refine ⟨fun σ4 H4 => ∃ G4, Same G G4 ∧ Wd X.K F G4 σ4 H4 (Γs (f s)), fun σ4 H4 ⟨G4, a1, a2⟩ => ⟨m, Nat.lt_succ_self m, G4, f s, a1, a2, hA2, hE2⟩, ?_⟩
        exact ho F G3 σ' H3 W3 _ (ht F _ G3 ⟨fun σ5 G5 H5 sg5 W5 => ⟨G5, (sg.trans sg3).trans sg5, W5⟩, fun σ5 G5 H5 sg5 W5 => ⟨G5, (sg.trans sg3).trans sg5, W5⟩⟩)
    | false =>
      rw [if_neg Bool.false_ne_true]
      have hE2 : whileN c f n s0 = s := by
        rw [hE]
        cases m with
        | zero => rfl
        | succ m =>
          show (bif c s then whileN c f m (f s) else s) = _
          rw [hcs]
          rfl
      rw [hE2] at q
      exact q σ' G3 H3 (sg.trans sg3) W3)
end
end Dn

set_option Elab.async false
set_option linter.all false
set_option maxRecDepth 100000
set_option maxHeartbeats 1000000
/-! Dn, part 7: comprehensions; built-ins; methods. -/
namespace Dn
open PySem PySem.Spec PyProof.Rows L2 TL

/-! ### comprehensions -/
def wipeS (Γ : List Slot) : List Nat → List Slot
  | [] => Γ
  | v :: vs => (wipeS Γ vs).set v .un
theorem wipe_get {σ : L2.St} : ∀ {vs : List Nat} {i : Nat}, (wipe σ vs)[i]? = if i ∈ vs ∧ i < σ.length then some none else σ[i]?
  | [], i => by simp [wipe]
  | v :: vs, i => by
    have hl : (wipe σ vs).length = σ.length := wipe_length σ vs
    unfold wipe
    by_cases hi : v = i
    · subst hi
      by_cases hv : v < σ.length
      · rw [List.getElem?_set_self (by rw [hl]; exact hv), if_pos ⟨by simp, hv⟩]
      · rw [List.getElem?_eq_none (by rw [List.length_set, hl]; omega), if_neg (fun z => hv z.2), List.getElem?_eq_none (by omega)]
    · rw [List.getElem?_set_ne hi, wipe_get]
      have e : (i ∈ v :: vs ∧ i < σ.length) ↔ (i ∈ vs ∧ i < σ.length) := by
        simp only [List.mem_cons]
        constructor
        · rintro ⟨h | h, l⟩
          · exact absurd h.symm hi
          · exact ⟨h, l⟩
        · exact fun h => ⟨.inr h.1, h.2⟩
      by_cases c : i ∈ vs ∧ i < σ.length
      · rw [if_pos c, if_pos (e.mpr c)]
      · rw [if_neg c, if_neg fun z => c (e.mp z)]
theorem wipe_back {σ σ' : L2.St} {vs tgs : List Nat} (a : At' tgs (wipe σ vs) σ') (h : ∀ i ∈ tgs, i ∈ vs) : wipe σ' vs = wipe σ vs := by
  have hl : σ'.length = σ.length := a.1.trans (wipe_length σ vs)
  apply List.ext_getElem?
  intro i
  rw [wipe_get, wipe_get, hl]
  by_cases c : i ∈ vs ∧ i < σ.length
  · rw [if_pos c, if_pos c]
  · rw [if_neg c, if_neg c]
    by_cases m : i ∈ tgs
    · have nl : ¬ i < σ.length := fun z => c ⟨h i m, z⟩
      rw [List.getElem?_eq_none (by omega), List.getElem?_eq_none (by omega)]
    · rw [a.2 i m, wipe_get, if_neg c]
theorem wipeS_len {Γ : List Slot} : ∀ {vs : List Nat}, (wipeS Γ vs).length = Γ.length
  | [] => rfl
  | v :: vs => by unfold wipeS; rw [List.length_set, wipeS_len]
theorem wipeS_in {Γ : List Slot} : ∀ {vs : List Nat} {i : Nat} {s : Slot}, wipeS Γ vs = Γ → Γ[i]? = some s → i ∈ vs → s = .un := by
  have key : ∀ {vs : List Nat} {i : Nat} {s : Slot}, (wipeS Γ vs)[i]? = some s → i ∈ vs → s = .un := by
    intro vs
    induction vs with
    | nil => intro i s _ h; cases h
    | cons v vs ih =>
      intro i s e h
      unfold wipeS at e
      by_cases hi : v = i
      · subst hi
        have hv : v < (wipeS Γ vs).length := by have := (List.getElem?_eq_some_iff.mp e).1; rwa [List.length_set] at this
        rw [List.getElem?_set_self hv] at e
        exact (Option.some.inj e).symm
      · rw [List.getElem?_set_ne hi] at e
        rcases List.mem_cons.mp h with z | z
        · exact absurd z.symm hi
        · exact ih e z
  intro vs i s hw e h
  rw [← hw] at e
  exact key e h
section
variable {K : PySem.W.Frag} {F : Fx} {G H : Hp} {σ σ' : L2.St} {Γ : List Slot} {vs : List Nat}
/-- slots that no word speaks of may differ -/
theorem Wd.other (W : Wd K F G σ H Γ) (hl : σ'.length = σ.length) (h : ∀ (i : Nat) (s : Slot), Γ[i]? = some s → s = .un ∨ σ'[i]? = σ[i]?) : Wd K F G σ' H Γ where
  len := hl.trans W.len
  gh := W.gh
  th := W.th
  tg := W.tg
  sl := fun i s e => by
    rcases h i s e with z | z
    · subst z; trivial
    · rw [z]; exact W.sl i s e
  dj := fun i j s s' p ne e1 o1 e2 o2 h1 h2 => by
    rcases h i s e1 with z | z
    · subst z; cases o1
    · rcases h j s' e2 with y | y
      · subst y; cases o2
      · exact W.dj i j s s' p ne e1 o1 e2 o2 (z ▸ h1) (y ▸ h2)
theorem Wd.wiped (W : Wd K F G σ H Γ) (hw : wipeS Γ vs = Γ) : Wd K F G (wipe σ vs) H Γ := W.other (wipe_length σ vs) fun i s e => by
  by_cases c : i ∈ vs
  · exact .inl (wipeS_in hw e c)
  · right; rw [wipe_get, if_neg fun z => c z.1]
theorem Wd.unwiped {tgs : List Nat} (W : Wd K F G σ' H Γ) (hw : wipeS Γ vs = Γ) (a : At' tgs (wipe σ vs) σ') (h : ∀ i ∈ tgs, i ∈ vs) : Wd K F G σ H Γ := W.other ((wipe_length σ vs).symm.trans a.1.symm) fun i s e => by
  by_cases c : i ∈ vs
  · exact .inl (wipeS_in hw e c)
  · right; rw [a.2 i fun z => c (h i z), wipe_get, if_neg fun z => c z.1]
/-- what is held aside is changed -/
theorem Wd.grow {p : Addr} {ho ho' : HO} (W : Wd K { F with T := upd F.T p ho } G σ H Γ) : Wd K { F with T := upd F.T p ho' } G σ (upd H p ho') Γ where
  len := W.len
  gh := fun b o e => by
    have ne : b ≠ p := ne_of_none e W.held.2
    rw [upd_ne ne]; exact W.gh b o e
  th := fun b o e => by
    change upd F.T p ho' b = some o at e
    by_cases hb : b = p
    · subst hb; rw [upd_same] at e ⊢; exact e
    · rw [upd_ne hb] at e ⊢; exact W.th b o (by show upd F.T p ho b = _; rw [upd_ne hb]; exact e)
  tg := fun b o e => by
    change upd F.T p ho' b = some o at e
    by_cases hb : b = p
    · subst hb; exact W.held.2
    · rw [upd_ne hb] at e; exact W.tg b o (by show upd F.T p ho b = _; rw [upd_ne hb]; exact e)
  sl := fun i s e => by
    have q := W.sl i s e
    cases s with
    | un => exact q
    | fr t x => exact q
    | ow pin o =>
      obtain ⟨a, ho2, h1, h2, h3, h4, h5, h6⟩ := q
      change upd F.T p ho a = none at h3
      have ne : a ≠ p := fun z => by subst z; rw [upd_same] at h3; cases h3
      rw [upd_ne ne] at h3
      exact ⟨a, ho2, h1, h2, (by show upd F.T p ho' a = none; rw [upd_ne ne]; exact h3), by rw [upd_ne ne]; exact h4, h5, h6⟩
  dj := W.dj
end
/-- a turn: what is put in (if anything), the state behind -/
def lcF {S α β : Type} (f : S → α → Option β × S) : List β × S → α → List β × S := fun a y => match f a.2 y with
  | (some x, s) => (a.1 ++ [x], s)
  | (none, s) => (a.1, s)
def AllC {S α β : Type} (P : S → α → Prop) (f : S → α → Option β × S) : S → List α → Prop
  | _, [] => True
  | s, y :: ys => P s y ∧ AllC P f (f s y).2 ys
theorem lcF_snd {S α β : Type} {f : S → α → Option β × S} {a : List β × S} {y : α} : (lcF f a y).2 = (f a.2 y).2 := by
  unfold lcF
  rcases f a.2 y with ⟨_ | x, s⟩ <;> rfl
theorem lcF_len {S α β : Type} {f : S → α → Option β × S} {a : List β × S} {y : α} : (lcF f a y).1.length ≤ a.1.length + 1 := by
  unfold lcF
  rcases f a.2 y with ⟨_ | x, s⟩ <;> simp
def WPTs (X : Cx) (ifs : List Expr) : TT := fun σ H Q => ∀ (pins : List (Addr × Obj)) (s : Shared), Inv X pins σ H s →
    wpAny (model X.prog X.w) X.A (forIn ifs true fun c r => if r = true then do let ok ← isTrue c X.env (eval c X.env); pure (ForInStep.yield ok) else pure (ForInStep.yield r)) (TP X pins σ Q) X.xe s
theorem pts_wp {X : Cx} {ifs : List Expr} : PTs X ifs (WPTs X ifs) := ⟨fun pins s σ H Q I h => h pins s I⟩
theorem wpts_of {X : Cx} {ifs : List Expr} {t : TT} {σ : L2.St} {H : Hp} {Q : Bool → Hp → Prop} (p : PTs X ifs t) (h : t σ H Q) : WPTs X ifs σ H Q := fun pins s I => p.run pins s σ H Q I h
abbrev DTs (X : Cx) (ifs : List Expr) (Γ : List Slot) (b : Bool) (Γ' : List Slot) : Prop := EvT X.K (WPTs X ifs) Γ b Γ'
theorem dts_nil {X : Cx} {Γ : List Slot} : DTs X [] Γ true Γ := fun F G σ H W Q q => wpts_of pts_nil (q G H (Same.refl G) W)
theorem dts_one {X : Cx} {c : Expr} {Γ Γ1 : List Slot} {b : Bool} (h : DT X c Γ b Γ1) : DTs X [c] Γ b Γ1 := fun F G σ H W Q q => wpts_of (pts_one pt_wp) (h F G σ H W Q q)
section
variable {X : Cx} {S α : Type} {tg iter elt : Expr} {ifs : List Expr} {scope : Scope} {g : TG} {pos : Pos} {Γ Γ1 : List Slot} {ys : List α} {B : α → List Slot → List Slot} {tgs : List Nat} {P : S → α → Prop} {t : Ty} {own : List (Str × Nat)}
/-- [elt for target in iter if ..], with a state that goes along (the box) -/
theorem lc_run (Γs : S → List Slot) {s0 : S} {f : S → α → Option t.den × S} (hi : DI X tg iter g Γ ys B tgs (Γs s0)) (hz : Sz ys.length) (hP : AllC P f s0 ys) (hw : ∀ s, wipeS (Γs s) (own.map (·.2)) = Γs s) (htg : ∀ i ∈ tgs, i ∈ own.map (·.2))
    (hb : ∀ s y, P s y → ∃ (b : Bool) (Γt : List Slot) (x : t.den) (Γe : List Slot), ∀ (sh : Shared) (H : Hp) (C : Addr) (cl : List (Str × Addr)) (fp : List Addr), DTs (X.blk sh H scope (compEnvC scope cl C X.env) fp) ifs (B y (Γs s)) b Γt ∧
      (b = true → DE (X.blk sh H scope (compEnvC scope cl C X.env) fp) elt Γt t x Γe ∧ (f s y).1 = some x ∧ Wk Γe (Γs (f s y).2)) ∧ (b = false → (f s y).1 = none ∧ Wk Γt (Γs (f s y).2)))
 :
    (∀ F G σ H, Wd X.K F G σ H Γ → ∀ Q : VK, (∀ p ho G' H', Same G G' → Wd X.K { F with T := upd F.T p ho } G' σ H' (Γs (ys.foldl (lcF f) ([], s0)).2) → F.T p = none → OwnOk X.K G' ho (.lst t (ys.foldl (lcF f) ([], s0)).1) → Q (.ref p) H') →
      tLc (WPI X tg iter) g (fun σ H Q => ∀ sh H0 C cl fp, WPTs (X.blk sh H0 scope (compEnvC scope cl C X.env) fp) ifs σ H Q) (fun σ H Q => ∀ sh H0 C cl fp, WPE (X.blk sh H0 scope (compEnvC scope cl C X.env) fp) elt σ H Q) (own.map (·.2)) σ H Q) := by
  intro F G σ H W Q q
  refine hi F G σ H W _ fun J G1 H1 sg1 W1 it => ?_
  intro D hD
  have hT : F.T D = none := W1.tn hD
  refine ⟨fun i m H' => m = ys.length - i ∧ i ≤ ys.length ∧ ∃ (G' : Hp) (a : List t.den × S) (vs : List V), Same G1 G' ∧ Wd X.K { F with T := upd F.T D (.lst vs) } G' σ H' (Γs a.2) ∧ RepL X.K t G' vs a.1 ∧ a.1.length ≤ i ∧ AllC P f a.2 (ys.drop i) ∧ ys.foldl (lcF f) ([], s0) = (ys.drop i).foldl (lcF f) a,
    ⟨ys.length, by omega, by omega, G1, ([], s0), [], Same.refl _, W1.new hD, .nil, Nat.le_refl _, hP, rfl⟩, ?_⟩
  rintro i m H' ⟨rfl, hi', G', a, vs, sg', W', hr, hal, hA, hE⟩
  by_cases hl : i < ys.length
  · refine .inr ⟨it.go i G' H' sg' W'.gh hl, ?_⟩
    have hd : ys.drop i = ys[i] :: ys.drop (i + 1) := List.drop_eq_getElem_cons hl
    rw [hd] at hA hE
    obtain ⟨b, Γt, x, Γe, hblk⟩ := hb a.2 ys[i] hA.1
    have hA2 : AllC P f (lcF f a ys[i]).2 (ys.drop (i + 1)) := by rw [lcF_snd]; exact hA.2
    have hE2 : ys.foldl (lcF f) ([], s0) = (ys.drop (i + 1)).foldl (lcF f) (lcF f a ys[i]) := hE
    refine ⟨fun H3 => ∃ (G3 : Hp) (a' : List t.den × S) (vs' : List V), Same G1 G3 ∧ Wd X.K { F with T := upd F.T D (.lst vs') } G3 σ H3 (Γs a'.2) ∧ RepL X.K t G3 vs' a'.1 ∧ a'.1.length ≤ i + 1 ∧ AllC P f a'.2 (ys.drop (i + 1)) ∧ ys.foldl (lcF f) ([], s0) = (ys.drop (i + 1)).foldl (lcF f) a',
      fun H3 ⟨G3, a', vs', a1, a2, a3, a4, a5, a6⟩ => ⟨ys.length - (i + 1), by omega, rfl, hl, G3, a', vs', a1, a2, a3, a4, a5, a6⟩, fun v H3 y => ?_⟩
    refine it.yld { F with T := upd F.T D (.lst vs) } i ys[i] G' (wipe σ (own.map (·.2))) H' (Γs a.2) v H3 _ sg' (W'.wiped (hw _)) (List.getElem?_eq_getElem hl) y fun G3 σ3 H4 sg3 at3 W3 => ?_
    refine ⟨wipe_back at3 htg, fun sh H0 C cl fp => ?_⟩
    refine (hblk sh H0 C cl fp).1 _ G3 σ3 H4 W3 _ fun G4 H5 sg4 W4 => ?_
    cases b with
    | true =>
      rw [if_pos rfl]
      intro sh2 H02 C2 cl2 fp2
      obtain ⟨hx, hf, hk⟩ := (hblk sh2 H02 C2 cl2 fp2).2.1 rfl
      refine hx _ G4 σ3 H5 W4 _ fun u G5 H6 sg5 W5 r5 => ?_
      have W6 := (W5.weak hk).unwiped (hw _) at3 htg
      refine ⟨vs, W6.held.1, ?_, G5, lcF f a ys[i], vs ++ [u], ((sg'.trans sg3).trans sg4).trans sg5, ?_, ?_, ?_, hA2, hE2⟩
      · have e := pair_len hr
        have := hz.lt
        omega
      · rw [lcF_snd]; exact W6.grow
      · have e1 : (lcF f a ys[i]).1 = a.1 ++ [x] := by
          unfold lcF
          cases e2 : f a.2 ys[i] with
          | mk o s' => rw [e2] at hf; simp only at hf; subst hf; rfl
        rw [e1]
        exact pair_app (repL_mono ((sg3.trans sg4).trans sg5) hr) (.cons r5 .nil)
      · have := lcF_len (f := f) (a := a) (y := ys[i])
        omega
    | false =>
      rw [if_neg Bool.false_ne_true]
      obtain ⟨hf, hk⟩ := (hblk sh H0 C cl fp).2.2 rfl
      have W6 := (W4.weak hk).unwiped (hw _) at3 htg
      refine ⟨G4, lcF f a ys[i], vs, (sg'.trans sg3).trans sg4, by rw [lcF_snd]; exact W6, ?_, ?_, hA2, hE2⟩
      · have e1 : (lcF f a ys[i]).1 = a.1 := by
          unfold lcF
          cases e2 : f a.2 ys[i] with
          | mk o s' => rw [e2] at hf; simp only at hf; subst hf; rfl
        rw [e1]
        exact repL_mono (sg3.trans sg4) hr
      · have := lcF_len (f := f) (a := a) (y := ys[i])
        omega
  · have e : i = ys.length := by omega
    subst e
    rw [List.drop_length] at hE
    refine .inl ⟨it.stop G' H' sg' W'.gh, ?_⟩
    have hE' : ys.foldl (lcF f) ([], s0) = a := hE
    exact q D (.lst vs) G' H' (sg1.trans sg') (by rw [hE']; exact W') hT ⟨vs, rfl, by rw [hE']; exact hr⟩
structure LcOk (X : Cx) (elt tg iter : Expr) (ifs : List Expr) (scope : Scope) (Γ : List Slot) (o : Own) (Γ' : List Slot) : Prop where
  ex : ∃ (own : List (Str × Nat)) (wi : TI) (g : TG) (tt : TT) (te : TE), BlkOk X.N X.env.scope scope own ∧ PI X tg iter wi ∧
    (∀ (sh : Shared) (H : Hp) (C : Addr) (cl : List (Str × Addr)) (fp : List Addr), PG (X.blk sh H scope (compEnvC scope cl C X.env) fp) tg g) ∧
    (∀ (sh : Shared) (H : Hp) (C : Addr) (cl : List (Str × Addr)) (fp : List Addr), PTs (X.blk sh H scope (compEnvC scope cl C X.env) fp) ifs tt) ∧
    (∀ (sh : Shared) (H : Hp) (C : Addr) (cl : List (Str × Addr)) (fp : List Addr), PE (X.blk sh H scope (compEnvC scope cl C X.env) fp) elt te) ∧
    ∀ F G σ H, Wd X.K F G σ H Γ → ∀ Q : VK, (∀ p ho G' H', Same G G' → Wd X.K { F with T := upd F.T p ho } G' σ H' Γ' → F.T p = none → OwnOk X.K G' ho o → Q (.ref p) H') → tLc wi g tt te (own.map (·.2)) σ H Q
/-- .. the four forms: with a state or without, with tests or without -/
abbrev InBlk (X : Cx) (scope : Scope) (p : Cx → Prop) : Prop := ∀ (sh : Shared) (H : Hp) (C : Addr) (cl : List (Str × Addr)) (fp : List Addr), p (X.blk sh H scope (compEnvC scope cl C X.env) fp)
theorem lc_S (own : List (Str × Nat)) (Γs : S → List Slot) {s0 : S} {f : S → α → Option t.den × S} (hi : DI X tg iter g Γ ys B tgs (Γs s0)) (hg : InBlk X scope fun X' => PG X' tg g) (hz : Sz ys.length) (hP : AllC P f s0 ys)
    (hb : ∀ s y, P s y → ∃ (b : Bool) (Γt : List Slot) (x : t.den) (Γe : List Slot), InBlk X scope fun X' => DTs X' ifs (B y (Γs s)) b Γt ∧ (b = true → DE X' elt Γt t x Γe ∧ (f s y).1 = some x ∧ Wk Γe (Γs (f s y).2)) ∧ (b = false → (f s y).1 = none ∧ Wk Γt (Γs (f s y).2)))
    (ok : BlkOk X.N X.env.scope scope own) (hw : ∀ s, wipeS (Γs s) (own.map (·.2)) = Γs s := by intro _; rfl) (htg : ∀ i ∈ tgs, i ∈ own.map (·.2) := by decide) : LcOk X elt tg iter ifs scope Γ (.lst t (ys.foldl (lcF f) ([], s0)).1) (Γs (ys.foldl (lcF f) ([], s0)).2) :=
  ⟨own, _, g, _, _, ok, pi_wp, hg, fun sh H C cl fp => ⟨fun pins s σ H' Q I h => h sh H C cl fp pins s I⟩, fun sh H C cl fp => ⟨fun pins s σ H' Q I h => h sh H C cl fp pins s I⟩, lc_run Γs hi hz hP hw htg hb⟩
theorem fold_map {β : Type} {h : α → β} : ∀ {ys : List α} {a : List β × Unit}, ys.foldl (lcF fun (s : Unit) y => (some (h y), s)) a = (a.1 ++ ys.map h, ())
  | [], a => by simp
  | y :: ys, a => by rw [List.foldl_cons, fold_map]; simp [lcF]
theorem fold_filt {β : Type} {c : α → Bool} {h : α → β} : ∀ {ys : List α} {a : List β × Unit}, ys.foldl (lcF fun (s : Unit) y => (bif c y then some (h y) else none, s)) a = (a.1 ++ (ys.filter c).map h, ())
  | [], a => by simp
  | y :: ys, a => by
    rw [List.foldl_cons, fold_filt]
    cases e : c y <;> simp [lcF, e]
theorem allC_of {β : Type} {P : α → Prop} {f : Unit → α → Option β × Unit} : ∀ {ys : List α}, (∀ y ∈ ys, P y) → AllC (fun _ y => P y) f () ys
  | [], _ => trivial
  | y :: ys, h => ⟨h y (by simp), allC_of fun z hz => h z (by simp [hz])⟩
theorem lc_map (own : List (Str × Nat)) {P : α → Prop} {h : α → t.den} (hi : DI X tg iter g Γ ys B tgs Γ1) (hg : InBlk X scope fun X' => PG X' tg g) (hz : Sz ys.length) (hP : ∀ y ∈ ys, P y)
    (hb : ∀ y, P y → ∃ Γe, Wk Γe Γ1 ∧ InBlk X scope fun X' => DE X' elt (B y Γ1) t (h y) Γe)
    (ok : BlkOk X.N X.env.scope scope own) (hw : wipeS Γ1 (own.map (·.2)) = Γ1 := by rfl) (htg : ∀ i ∈ tgs, i ∈ own.map (·.2) := by decide) : LcOk X elt tg iter [] scope Γ (.lst t (ys.map h)) Γ1 := by
  have r := lc_S (X := X) (scope := scope) (elt := elt) (ifs := []) (P := fun _ y => P y) (t := t) own (fun _ : Unit => Γ1) (s0 := ()) (f := fun s y => (some (h y), s)) hi hg hz (allC_of hP) (fun s y p => by
    obtain ⟨Γe, k, d⟩ := hb y p
    exact ⟨true, _, h y, Γe, fun sh H C cl fp => ⟨dts_nil, fun _ => ⟨d sh H C cl fp, rfl, k⟩, fun z => by cases z⟩⟩) ok (fun _ => hw) htg
  rw [fold_map] at r
  exact r
theorem lc_filt (own : List (Str × Nat)) {P : α → Prop} {c : α → Bool} {h : α → t.den} (hi : DI X tg iter g Γ ys B tgs Γ1) (hg : InBlk X scope fun X' => PG X' tg g) (hz : Sz ys.length) (hP : ∀ y ∈ ys, P y)
    (hb : ∀ y, P y → ∃ Γt Γe, Wk Γt Γ1 ∧ Wk Γe Γ1 ∧ InBlk X scope fun X' => DTs X' ifs (B y Γ1) (c y) Γt ∧ (c y = true → DE X' elt Γt t (h y) Γe))
    (ok : BlkOk X.N X.env.scope scope own) (hw : wipeS Γ1 (own.map (·.2)) = Γ1 := by rfl) (htg : ∀ i ∈ tgs, i ∈ own.map (·.2) := by decide) : LcOk X elt tg iter ifs scope Γ (.lst t ((ys.filter c).map h)) Γ1 := by
  have r := lc_S (X := X) (scope := scope) (elt := elt) (ifs := ifs) (P := fun _ y => P y) (t := t) own (fun _ : Unit => Γ1) (s0 := ()) (f := fun s y => (bif c y then some (h y) else none, s)) hi hg hz (allC_of hP) (fun s y p => by
    obtain ⟨Γt, Γe, k1, k2, d⟩ := hb y p
    exact ⟨c y, Γt, h y, Γe, fun sh H C cl fp => ⟨(d sh H C cl fp).1, fun z => ⟨(d sh H C cl fp).2 z, by show (bif c y then some (h y) else none) = _; rw [z]; rfl, k2⟩, fun z => ⟨by show (bif c y then some (h y) else none) = _; rw [z]; rfl, k1⟩⟩⟩) ok (fun _ => hw) htg
  rw [fold_filt] at r
  exact r
def mapS {S α β : Type} (f : S → α → β × S) : S → List α → List β × S
  | s, [] => ([], s)
  | s, y :: ys => ((f s y).1 :: (mapS f (f s y).2 ys).1, (mapS f (f s y).2 ys).2)
theorem fold_mapS {β : Type} {f : S → α → β × S} : ∀ {ys : List α} {a : List β × S}, ys.foldl (lcF fun s y => (some (f s y).1, (f s y).2)) a = (a.1 ++ (mapS f a.2 ys).1, (mapS f a.2 ys).2)
  | [], a => by simp [mapS]
  | y :: ys, a => by rw [List.foldl_cons, fold_mapS]; simp [lcF, mapS]
def AllS {S α β : Type} (P : S → α → Prop) (f : S → α → β × S) : S → List α → Prop
  | _, [] => True
  | s, y :: ys => P s y ∧ AllS P f (f s y).2 ys
theorem allC_S {β : Type} {f : S → α → β × S} : ∀ {ys : List α} {s : S}, AllS P f s ys → AllC P (fun s y => (some (f s y).1, (f s y).2)) s ys
  | [], _, _ => trivial
  | _ :: _, _, h => ⟨h.1, allC_S h.2⟩
theorem lc_mapS (own : List (Str × Nat)) (Γs : S → List Slot) {s0 : S} {f : S → α → t.den × S} (hi : DI X tg iter g Γ ys B tgs (Γs s0)) (hg : InBlk X scope fun X' => PG X' tg g) (hz : Sz ys.length) (hP : AllS P f s0 ys)
    (hb : ∀ s y, P s y → ∃ Γe, Wk Γe (Γs (f s y).2) ∧ InBlk X scope fun X' => DE X' elt (B y (Γs s)) t (f s y).1 Γe)
    (ok : BlkOk X.N X.env.scope scope own) (hw : ∀ s, wipeS (Γs s) (own.map (·.2)) = Γs s := by intro _; rfl) (htg : ∀ i ∈ tgs, i ∈ own.map (·.2) := by decide) : LcOk X elt tg iter [] scope Γ (.lst t (mapS f s0 ys).1) (Γs (mapS f s0 ys).2) := by
  have r := lc_S (X := X) (scope := scope) (elt := elt) (ifs := []) (P := P) (t := t) own Γs (s0 := s0) (f := fun s y => (some (f s y).1, (f s y).2)) hi hg hz (allC_S hP) (fun s y p => by
    obtain ⟨Γe, k, d⟩ := hb s y p
    exact ⟨true, _, (f s y).1, Γe, fun sh H C cl fp => ⟨dts_nil, fun _ => ⟨d sh H C cl fp, rfl, k⟩, fun z => by cases z⟩⟩) ok hw htg
  rw [fold_mapS] at r
  exact r
end
section
variable {X : Cx} {ρ : Type} {R : RI ρ} {tg iter elt : Expr} {ifs : List Expr} {scope : Scope} {pos : Pos} {Γ Γ1 : List Slot} {o : Own}
theorem do_lc (h : LcOk X elt tg iter ifs scope Γ o Γ1) (hN : X.N.Nodup) (hc : X.calm = true := by rfl) (hs : ∀ x, foldedSetIterable iter X.env x = pure x := by intro _; rfl) : DO X (.ListComp elt [⟨tg, iter, ifs, 0⟩] scope pos) Γ o Γ1 := fun F G σ H W Q q => by
  obtain ⟨own, wi, g, tt, te, ok, hi, hg, ht, he, k⟩ := h.ex
  exact wpe_of (pe_lc hc hN hi ok hg ht he hs) (k F G σ H W Q q)
theorem ds_lc (i : Nat) {y : Str} {py spos : Pos} (h : LcOk X elt tg iter ifs scope Γ o Γ1) (hN : X.N.Nodup) (hy : X.N[i]? = some y := by rfl) (hyl : X.env.scope.names.lookup y = some .local := by rfl)
    (hsw : swapsWith (.ListComp elt [⟨tg, iter, ifs, 0⟩] scope pos) (some (.Name y py)) spos.line X.env = pure true := by exact sw_true rfl rfl rfl (by decide +kernel)) (hc : X.calm = true := by rfl) (hs : ∀ x, foldedSetIterable iter X.env x = pure x := by intro _; rfl) :
    DS X R (.Assign [.Name y py] (.ListComp elt [⟨tg, iter, ifs, 0⟩] scope pos) spos) Γ (.nx (Γ1.set i (.ow false o))) := fun F G σ H W D q => by
  obtain ⟨own, wi, g, tt, te, ok, hi, hg, ht, he, k⟩ := h.ex
  refine wps_of (ps_setLc hc hN hy hyl hsw hi ok hg ht he hs) ?_
  show tLc wi g tt te (own.map (·.2)) σ H fun x H1 => gName i x σ H1 D.nx
  exact k F G σ H W _ fun p ho G' H' s W' hT okp => q _ G' H' s (W'.setOw hT okp)
end
end Dn

set_option Elab.async false
set_option linter.all false
set_option maxRecDepth 100000
set_option maxHeartbeats 1000000
/-! Dn, part 8: displays, slices, built-ins, methods of owned lists. -/
namespace Dn
open PySem PySem.Spec PyProof.Rows L2 TL

section
variable {X : Cx} {a b e : Expr} {es : List Expr} {pos p : Pos} {Γ Γ1 Γ2 Γ3 : List Slot} {t u : Ty} {xs ys : List t.den}
/-! ### displays -/
/-- items, all of one type -/
theorem sz_of {n : Nat} (h : Nat.ble n 100000 = true) : Sz n := Nat.le_of_ble_eq_true h
def EvLs (K : PySem.W.Frag) (ta : TA) (Γ : List Slot) (t : Ty) (xs : List t.den) (Γ' : List Slot) : Prop :=
  ∀ (F : Fx) (G : Hp) (σ : L2.St) (H : Hp), Wd K F G σ H Γ → ∀ Q : List V → Hp → Prop, (∀ vs G' H', Same G G' → Wd K F G' σ H' Γ' → RepL K t G' vs xs → Q vs H') → ta σ H Q
abbrev DLs (X : Cx) (es : List Expr) (Γ : List Slot) (t : Ty) (xs : List t.den) (Γ' : List Slot) : Prop := EvLs X.K (WPA X es) Γ t xs Γ'
theorem dls_nil : DLs X [] Γ t [] Γ := fun F G σ H W Q q => wpa_of pa_nil (q [] G H (Same.refl G) W .nil)
theorem dls_cons {x : t.den} (ha : DE X e Γ t x Γ1) (hr : DLs X es Γ1 t xs Γ2) (hs : starEach (e :: es) X.env = (false, eval e X.env) :: starEach es X.env := by rfl) : DLs X (e :: es) Γ t (x :: xs) Γ2 := fun F G σ H W Q q =>
  wpa_of (pa_cons pe_wp pa_wp hs) (ha F G σ H W _ fun v G1 H1 s1 W1 r1 => hr F G1 σ H1 W1 _ fun vs G2 H2 s2 W2 r2 => q (v :: vs) G2 H2 (s1.trans s2) W2 (.cons (rep_mono s2 t v x r1) r2))
theorem do_lst (h : DLs X es Γ t xs Γ1) (hz : Sz xs.length := by exact sz_of rfl) : DO X (.List es pos) Γ (.lst t xs) Γ1 := fun F G σ H W Q q =>
  wpe_of (pe_lst pa_wp) (h F G σ H W _ fun vs G' H' s W' r => by
    have el := pair_len r
    exact ⟨by rw [el]; exact hz.le, fun p hp => q p (.lst vs) G' _ s (W'.new hp) (W'.tn hp) ⟨vs, rfl, r⟩⟩)
/-- a tuple of items of one type -/
theorem de_tupH {k} (h : DLs X es Γ t xs Γ1) (hz : Sz xs.length := by exact sz_of rfl) : DE X (.Tuple es k pos) Γ (.tup t) xs Γ1 := fun F G σ H W Q q =>
  wpe_of (pe_tup pa_wp) (h F G σ H W _ fun vs G' H' s W' r => by
    have el := pair_len r
    refine ⟨by rw [el]; exact hz.le, fun p hp => ?_⟩
    have sm := same_upd (o := .tup vs) (W'.gn hp)
    exact q (.ref p) _ _ (s.trans sm) (W'.newG hp) ⟨p, vs, rfl, .inl (.inl upd_same), repL_mono sm r⟩)
section
variable {A B C D E5 : Ty} {x1 : A.den} {x2 : B.den} {x3 : C.den} {x4 : D.den} {x5 : E5.den} {kk : Nat} {a1 a2 a3 a4 a5 : Expr} {Γ4 Γ5 : List Slot}
theorem de_t2 {k} (h1 : DE X a1 Γ A x1 Γ1) (h2 : DE X a2 Γ1 B x2 Γ2) (hs : starEach [a1, a2] X.env = (false, eval a1 X.env) :: starEach [a2] X.env := by rfl) (hs2 : starEach [a2] X.env = (false, eval a2 X.env) :: starEach [] X.env := by rfl) : DE X (.Tuple [a1, a2] k pos) Γ (.p2 A B) (x1, x2) Γ2 := fun F G σ H W Q q =>
  wpe_of (pe_tup (pa_cons pe_wp (pa_cons pe_wp pa_nil hs2) hs)) (h1 F G σ H W _ fun v1 G1 H1 s1 W1 r1 => h2 F G1 σ H1 W1 _ fun v2 G2 H2 s2 W2 r2 => by
    refine ⟨(by show 2 ≤ sizeLine; decide), fun p hp => ?_⟩
    have sm := same_upd (o := .tup [v1, v2]) (W2.gn hp)
    exact q (.ref p) _ _ ((s1.trans s2).trans sm) (W2.newG hp) ⟨p, v1, v2, rfl, .inl (.inl upd_same), rep_mono (s2.trans sm) A _ _ r1, rep_mono sm B _ _ r2⟩)
theorem de_t3 {k} (h1 : DE X a1 Γ A x1 Γ1) (h2 : DE X a2 Γ1 B x2 Γ2) (h3 : DE X a3 Γ2 C x3 Γ3) (hs : starEach [a1, a2, a3] X.env = (false, eval a1 X.env) :: starEach [a2, a3] X.env := by rfl) (hs2 : starEach [a2, a3] X.env = (false, eval a2 X.env) :: starEach [a3] X.env := by rfl)
    (hs3 : starEach [a3] X.env = (false, eval a3 X.env) :: starEach [] X.env := by rfl) : DE X (.Tuple [a1, a2, a3] k pos) Γ (.p3 A B C) (x1, x2, x3) Γ3 := fun F G σ H W Q q =>
  wpe_of (pe_tup (pa_cons pe_wp (pa_cons pe_wp (pa_cons pe_wp pa_nil hs3) hs2) hs)) (h1 F G σ H W _ fun v1 G1 H1 s1 W1 r1 => h2 F G1 σ H1 W1 _ fun v2 G2 H2 s2 W2 r2 => h3 F G2 σ H2 W2 _ fun v3 G3 H3 s3 W3 r3 => by
    refine ⟨(by show 3 ≤ sizeLine; decide), fun p hp => ?_⟩
    have sm := same_upd (o := .tup [v1, v2, v3]) (W3.gn hp)
    exact q (.ref p) _ _ (((s1.trans s2).trans s3).trans sm) (W3.newG hp) ⟨p, v1, v2, v3, rfl, .inl (.inl upd_same), rep_mono ((s2.trans s3).trans sm) A _ _ r1, rep_mono (s3.trans sm) B _ _ r2, rep_mono sm C _ _ r3⟩)
theorem de_t4 {k} (h1 : DE X a1 Γ A x1 Γ1) (h2 : DE X a2 Γ1 B x2 Γ2) (h3 : DE X a3 Γ2 C x3 Γ3) (h4 : DE X a4 Γ3 D x4 Γ4) (hs : starEach [a1, a2, a3, a4] X.env = (false, eval a1 X.env) :: starEach [a2, a3, a4] X.env := by rfl) (hs2 : starEach [a2, a3, a4] X.env = (false, eval a2 X.env) :: starEach [a3, a4] X.env := by rfl)
    (hs3 : starEach [a3, a4] X.env = (false, eval a3 X.env) :: starEach [a4] X.env := by rfl) (hs4 : starEach [a4] X.env = (false, eval a4 X.env) :: starEach [] X.env := by rfl) : DE X (.Tuple [a1, a2, a3, a4] k pos) Γ (.p4 A B C D) (x1, x2, x3, x4) Γ4 := fun F G σ H W Q q =>
  wpe_of (pe_tup (pa_cons pe_wp (pa_cons pe_wp (pa_cons pe_wp (pa_cons pe_wp pa_nil hs4) hs3) hs2) hs)) (h1 F G σ H W _ fun v1 G1 H1 s1 W1 r1 => h2 F G1 σ H1 W1 _ fun v2 G2 H2 s2 W2 r2 => h3 F G2 σ H2 W2 _ fun v3 G3 H3 s3 W3 r3 => h4 F G3 σ H3 W3 _ fun v4 G4 H4 s4 W4 r4 => by
    refine ⟨(by show 4 ≤ sizeLine; decide), fun p hp => ?_⟩
    have sm := same_upd (o := .tup [v1, v2, v3, v4]) (W4.gn hp)
    exact q (.ref p) _ _ ((((s1.trans s2).trans s3).trans s4).trans sm) (W4.newG hp) ⟨p, v1, v2, v3, v4, rfl, .inl (.inl upd_same), rep_mono (((s2.trans s3).trans s4).trans sm) A _ _ r1, rep_mono ((s3.trans s4).trans sm) B _ _ r2, rep_mono (s4.trans sm) C _ _ r3, rep_mono sm D _ _ r4⟩)
end

/-! ### slices -/
def cut {α : Type} (xs : List α) (lo hi : Option Int) : List α := (xs.drop (HT.sIx xs.length 0 lo)).take (HT.sIx xs.length xs.length hi - HT.sIx xs.length 0 lo)
def WPOp (X : Cx) (e : Option Expr) : TO := fun σ H Q => ∃ t, PO X e t ∧ t σ H Q
theorem po_wp {e : Option Expr} : PO X e (WPOp X e) := ⟨fun pins s σ H Q I h => by
  obtain ⟨t, p, q⟩ := h
  exact p.run pins s σ H Q I q⟩
def EvP (K : PySem.W.Frag) (to : TO) (Γ : List Slot) (o : Option Int) (Γ' : List Slot) : Prop :=
  ∀ (F : Fx) (G : Hp) (σ : L2.St) (H : Hp), Wd K F G σ H Γ → ∀ Q : Option Int → Hp → Prop, (∀ G' H', Same G G' → Wd K F G' σ H' Γ' → Q o H') → to σ H Q
abbrev DP (X : Cx) (e : Option Expr) (Γ : List Slot) (o : Option Int) (Γ' : List Slot) : Prop := EvP X.K (WPOp X e) Γ o Γ'
theorem dp_none : DP X none Γ none Γ := fun F G σ H W Q q => ⟨_, po_none, q G H (Same.refl G) W⟩
theorem dp_some {i : Int} (h : DE X e Γ .int i Γ1) : DP X (some e) Γ (some i) Γ1 := fun F G σ H W Q q => ⟨_, po_some pe_wp, h F G σ H W _ fun v G' H' s W' r => ⟨i, r, q G' H' s W'⟩⟩
section
variable {l h : Option Expr} {lo hi : Option Int} {p2 : Pos}
theorem de_slS {x : List Nat} (hz : Sz x.length) (he : DE X e Γ .str x Γ1) (hl : DP X l Γ1 lo Γ2) (hh : DP X h Γ2 hi Γ3) : DE X (.Subscript e (.Slice l h none p2) pos) Γ .str (cut x lo hi) Γ3 := fun F G σ H W Q q =>
  wpe_of (pe_slice sl_str pe_wp po_wp po_wp) (he F G σ H W _ fun v G1 H1 s1 W1 r1 => hl F G1 σ H1 W1 _ fun G2 H2 s2 W2 => hh F G2 σ H2 W2 _ fun G3 H3 s3 W3 =>
    ⟨⟨x.toArray⟩, r1, by rw [len_mk]; exact hz.le, q _ G3 H3 ((s1.trans s2).trans s3) W3 (by
      show V.str (cutS ⟨x.toArray⟩ lo hi) = vS (cut x lo hi)
      unfold vS cut cutS
      rw [len_mk])⟩)
theorem rep_cut {K : PySem.W.Frag} {G : Hp} {vs : List V} (r : RepL K t G vs xs) : RepL K t G (cutV vs lo hi) (cut xs lo hi) := by
  unfold cutV cut
  rw [pair_len r]
  exact pair_take _ (pair_drop _ r)
theorem do_slL (he : DE X e Γ (.lst t) xs Γ1) (hl : DP X l Γ1 lo Γ2) (hh : DP X h Γ2 hi Γ3) : DO X (.Subscript e (.Slice l h none p2) pos) Γ (.lst t (cut xs lo hi)) Γ3 := fun F G σ H W Q q =>
  wpe_of (pe_slice sl_list pe_wp po_wp po_wp) (he F G σ H W _ fun v G1 H1 s1 W1 r1 => hl F G1 σ H1 W1 _ fun G2 H2 s2 W2 => hh F G2 σ H2 W2 _ fun G3 H3 s3 W3 => by
    obtain ⟨a, vs, rfl, h1, h2⟩ := r1
    exact ⟨a, vs, rfl, .inl (rd_mono ((s2.trans s3).trans W3.gh) h1), fun p hp => q p _ G3 _ ((s1.trans s2).trans s3) (W3.new hp) (W3.tn hp) ⟨_, rfl, rep_cut (repL_mono (s2.trans s3) h2)⟩⟩)
theorem de_slU (he : DE X e Γ (.tup t) xs Γ1) (hl : DP X l Γ1 lo Γ2) (hh : DP X h Γ2 hi Γ3) : DE X (.Subscript e (.Slice l h none p2) pos) Γ (.tup t) (cut xs lo hi) Γ3 := fun F G σ H W Q q =>
  wpe_of (pe_slice sl_tupA pe_wp po_wp po_wp) (he F G σ H W _ fun v G1 H1 s1 W1 r1 => hl F G1 σ H1 W1 _ fun G2 H2 s2 W2 => hh F G2 σ H2 W2 _ fun G3 H3 s3 W3 => by
    obtain ⟨a, vs, rfl, h1, h2⟩ := r1
    have el := pair_len h2
    refine ⟨a, vs, rfl, sqt_mono ((s2.trans s3).trans W3.gh) h1, fun z => ?_, fun z p hp => ?_⟩
    · refine q _ G3 H3 ((s1.trans s2).trans s3) W3 ⟨a, vs, rfl, sqt_mono (s2.trans s3) h1, ?_⟩
      have e1 : cut xs lo hi = xs := by
        unfold cut
        rw [← el, z.1, z.2, List.drop_zero, Nat.sub_zero, el, List.take_length]
      rw [e1]
      exact repL_mono (s2.trans s3) h2
    · have sm := same_upd (o := .tup (cutV vs lo hi)) (W3.gn hp)
      exact q _ _ _ (((s1.trans s2).trans s3).trans sm) (W3.newG hp) ⟨p, _, rfl, .inl (.inl upd_same), rep_cut (repL_mono ((s2.trans s3).trans sm) h2)⟩)
end

/-! ### + of sequences -/
theorem de_catU (hz : Sz (xs.length + ys.length)) (ha : DE X a Γ (.tup t) xs Γ1) (hb : DE X b Γ1 (.tup t) ys Γ2) : DE X (.BinOp a .Add b pos) Γ (.tup t) (xs ++ ys) Γ2 := fun F G σ H W Q q =>
  wpe_of (pe_op op_catA pe_wp pe_wp) (ha F G σ H W _ fun v G1 H1 s1 W1 r1 => hb F G1 σ H1 W1 _ fun w G2 H2 s2 W2 r2 => by
    obtain ⟨a1, vs, rfl, h1, h2⟩ := r1
    obtain ⟨a2, ws, rfl, h3, h4⟩ := r2
    have el := pair_len h2
    have el2 := pair_len h4
    refine ⟨a1, a2, vs, ws, rfl, rfl, sqt_mono (s2.trans W2.gh) h1, sqt_mono W2.gh h3, by rw [el, el2]; exact hz.le, fun z => ?_, fun z z2 => ?_, fun z z2 p hp => ?_⟩
    · subst z
      cases h2
      exact q _ G2 H2 (s1.trans s2) W2 ⟨a2, ws, rfl, h3, h4⟩
    · subst z2
      cases h4
      exact q _ G2 H2 (s1.trans s2) W2 ⟨a1, vs, rfl, sqt_mono s2 h1, by rw [List.append_nil]; exact repL_mono s2 h2⟩
    · have sm := same_upd (o := .tup (vs ++ ws)) (W2.gn hp)
      exact q _ _ _ ((s1.trans s2).trans sm) (W2.newG hp) ⟨p, _, rfl, .inl (.inl upd_same), pair_app (repL_mono (s2.trans sm) h2) (repL_mono sm h4)⟩)
theorem Inv.lstR {pins : List (Addr × Obj)} {σ : L2.St} {H : Hp} {s : Shared} {l : Addr} {vs : List V} (I : Inv X pins σ H s) (h : Rd H l (.lst vs)) : vs.length ≤ sizeLine ∧ ∃ (its : List Value) (n : Nat), Vals vs its ∧ vs.length = its.length ∧ s.heap.get? l = some { cls := .type "list", data := .seq its.toArray n } := by
  obtain ⟨z, its, n, r, e⟩ := h.ok I.hok
  exact ⟨z, its, n, r, r.length, e⟩
def rCatR : R2 := fun x y H Q => ∃ l b xs zs, x = .ref l ∧ y = .ref b ∧ Rd H l (.lst xs) ∧ Rd H b (.lst zs) ∧ xs.length + zs.length ≤ sizeLine ∧ ∀ p, H p = none → Q (.ref p) (upd H p (.lst (xs ++ zs)))
theorem op_catR : OpR X (binaryOp .Add) rCatR := by
  intro pins s σ H x y v u Q I rx ry h
  obtain ⟨l, b, xs, zs, rfl, rfl, hH, hB, hz, q⟩ := h
  cases rx
  cases ry
  obtain ⟨z, its, n, r, hl, e⟩ := Inv.lstR I hH
  obtain ⟨z2, its2, n2, r2, hl2, e2⟩ := Inv.lstR I hB
  refine PySem.P.add_list e e2 ?_ (by rw [List.size_toArray, List.size_toArray]; omega)
  have ea : its.toArray ++ its2.toArray = (its ++ its2).toArray := by simp
  rw [ea]
  exact ⟨.ref _, _, I.lnew (t' := s.toks) (r.append r2) (by rw [List.length_append]; omega), rfl, q _ I.fresh⟩
theorem do_catL (hz : Sz (xs.length + ys.length)) (ha : DE X a Γ (.lst t) xs Γ1) (hb : DE X b Γ1 (.lst t) ys Γ2) : DO X (.BinOp a .Add b pos) Γ (.lst t (xs ++ ys)) Γ2 := fun F G σ H W Q q =>
  wpe_of (pe_op op_catR pe_wp pe_wp) (ha F G σ H W _ fun v G1 H1 s1 W1 r1 => hb F G1 σ H1 W1 _ fun w G2 H2 s2 W2 r2 => by
    obtain ⟨a1, vs, rfl, h1, h2⟩ := r1
    obtain ⟨a2, ws, rfl, h3, h4⟩ := r2
    have el := pair_len h2
    have el2 := pair_len h4
    exact ⟨a1, a2, vs, ws, rfl, rfl, rd_mono (s2.trans W2.gh) h1, rd_mono W2.gh h3, by rw [el, el2]; exact hz.le, fun p hp => q p _ G2 _ (s1.trans s2) (W2.new hp) (W2.tn hp) ⟨_, rfl, pair_app (repL_mono s2 h2) h4⟩⟩)

/-! ### built-ins -/
section
variable {n : Str}
theorem da_1 {x : u.den} (h : DE X e Γ u x Γ1) (hs : starEach [e] X.env = (false, eval e X.env) :: starEach [] X.env := by rfl) : DA X [e] Γ [.fr u x] Γ1 := da_cons h da_nil hs
theorem wpa_one {σ : L2.St} {H : Hp} {Q : List V → Hp → Prop} (hs : starEach [e] X.env = (false, eval e X.env) :: starEach [] X.env) (h : WPE X e σ H fun v H' => Q [v] H') : WPA X [e] σ H Q :=
  wpa_of (pa_cons pe_wp pa_nil hs) h
theorem de_lenS {x : List Nat} (hm : X.mg "len" = none) (hz : Sz x.length) (h : DE X e Γ .str x Γ1) (hg : Gl X "len" := by rfl) (hs : starEach [e] X.env = (false, eval e X.env) :: starEach [] X.env := by rfl) (hpl : (backTo pos (starEach [] X.env)).any (·.1) = false := by rfl) : DE X (.Call (.Name "len" p) [e] [] pos) Γ .int (x.length : Int) Γ1 := fun F G σ H W Q q =>
  wpe_of (pe_callB call_len_str hg hm PySem.boot_len pa_wp (by decide) (by decide) hs hpl) (wpa_one hs (h F G σ H W _ fun v G1 H1 s1 W1 r1 => ⟨⟨x.toArray⟩, by rw [show v = _ from r1]; rfl, by rw [len_mk]; exact hz.le, q _ G1 H1 s1 W1 (by rw [len_mk]; rfl)⟩))
theorem de_len (hm : X.mg "len" = none) (h : DQ X e Γ t xs Γ1) (hg : Gl X "len" := by rfl) (hs : starEach [e] X.env = (false, eval e X.env) :: starEach [] X.env := by rfl) (hpl : (backTo pos (starEach [] X.env)).any (·.1) = false := by rfl) : DE X (.Call (.Name "len" p) [e] [] pos) Γ .int (xs.length : Int) Γ1 := fun F G σ H W Q q =>
  wpe_of (pe_callB call_len_seq hg hm PySem.boot_len pa_wp (by decide) (by decide) hs hpl) (wpa_one hs (h F G σ H W _ fun a vs G1 H1 s1 W1 h1 h2 => ⟨a, vs, rfl, h1, q _ G1 H1 s1 W1 (by rw [pair_len h2]; rfl)⟩))
def b2z (c : Bool) : Int := bif c then 1 else 0
theorem de_intB {c : Bool} (hm : X.mg "int" = none) (h : DE X e Γ .bool c Γ1) (hg : Gl X "int" := by rfl) (hs : starEach [e] X.env = (false, eval e X.env) :: starEach [] X.env := by rfl) (hpl : (backTo pos (starEach [] X.env)).any (·.1) = false := by rfl) : DE X (.Call (.Name "int" p) [e] [] pos) Γ .int (b2z c) Γ1 := fun F G σ H W Q q =>
  wpe_of (pe_callTy call_int1 hg hm (by decide +kernel) pa_wp (by decide) (by decide) hs hpl) (wpa_one hs (h F G σ H W _ fun v G1 H1 s1 W1 r1 => .inr ⟨c, by rw [show v = _ from r1], q _ G1 H1 s1 W1 (by cases c <;> rfl)⟩))
theorem de_max2 {i j : Int} (hm : X.mg "max" = none) (ha : DE X a Γ .int i Γ1) (hb : DE X b Γ1 .int j Γ2) (hc : X.calm = true := by rfl) (hg : Gl X "max" := by rfl) (hs : starEach [a, b] X.env = (false, eval a X.env) :: starEach [b] X.env := by rfl) (hs2 : starEach [b] X.env = (false, eval b X.env) :: starEach [] X.env := by rfl) (hpl : (backTo pos (starEach [b] X.env)).any (·.1) = false := by rfl) :
    DE X (.Call (.Name "max" p) [a, b] [] pos) Γ .int (max i j) Γ2 := fun F G σ H W Q q =>
  wpe_of (pe_callB (call_max2 hc) hg hm (by decide +kernel) (pa_cons pe_wp (pa_cons pe_wp pa_nil hs2) hs) (by decide) (by decide) hs hpl) (ha F G σ H W _ fun v G1 H1 s1 W1 r1 => hb F G1 σ H1 W1 _ fun w G2 H2 s2 W2 r2 =>
    ⟨i, j, by rw [show v = _ from r1, show w = _ from r2], q _ G2 H2 (s1.trans s2) W2 (by show V.int _ = V.int _; congr 1; split <;> omega)⟩)
theorem de_min2 {i j : Int} (hm : X.mg "min" = none) (ha : DE X a Γ .int i Γ1) (hb : DE X b Γ1 .int j Γ2) (hc : X.calm = true := by rfl) (hg : Gl X "min" := by rfl) (hs : starEach [a, b] X.env = (false, eval a X.env) :: starEach [b] X.env := by rfl) (hs2 : starEach [b] X.env = (false, eval b X.env) :: starEach [] X.env := by rfl) (hpl : (backTo pos (starEach [b] X.env)).any (·.1) = false := by rfl) :
    DE X (.Call (.Name "min" p) [a, b] [] pos) Γ .int (min i j) Γ2 := fun F G σ H W Q q =>
  wpe_of (pe_callB (call_min2 hc) hg hm (by decide +kernel) (pa_cons pe_wp (pa_cons pe_wp pa_nil hs2) hs) (by decide) (by decide) hs hpl) (ha F G σ H W _ fun v G1 H1 s1 W1 r1 => hb F G1 σ H1 W1 _ fun w G2 H2 s2 W2 r2 =>
    ⟨i, j, by rw [show v = _ from r1, show w = _ from r2], q _ G2 H2 (s1.trans s2) W2 (by show V.int _ = V.int _; congr 1; split <;> omega)⟩)
theorem de_tuple (hm : X.mg "tuple" = none) (h : DL X e Γ t xs Γ1) (hg : Gl X "tuple" := by rfl) (hs : starEach [e] X.env = (false, eval e X.env) :: starEach [] X.env := by rfl) (hpl : (backTo pos (starEach [] X.env)).any (·.1) = false := by rfl) : DE X (.Call (.Name "tuple" p) [e] [] pos) Γ (.tup t) xs Γ1 := fun F G σ H W Q q =>
  wpe_of (pe_callTy call_tuple_of hg hm (by decide +kernel) pa_wp (by decide) (by decide) hs hpl) (wpa_one hs (h F G σ H W _ fun a vs G1 H1 s1 W1 h1 h2 => ⟨a, vs, rfl, .inl ⟨h1, fun l hl => by
      have sm := same_upd (o := .tup vs) (W1.gn hl)
      exact q _ _ _ (s1.trans sm) (W1.newG hl) ⟨l, vs, rfl, .inl (.inl upd_same), repL_mono sm h2⟩⟩⟩))
theorem do_list (hm : X.mg "list" = none) (h : DQ X e Γ t xs Γ1) (hg : Gl X "list" := by rfl) (hs : starEach [e] X.env = (false, eval e X.env) :: starEach [] X.env := by rfl) (hpl : (backTo pos (starEach [] X.env)).any (·.1) = false := by rfl) : DO X (.Call (.Name "list" p) [e] [] pos) Γ (.lst t xs) Γ1 := fun F G σ H W Q q =>
  wpe_of (pe_callTy call_list_of hg hm (by decide +kernel) pa_wp (by decide) (by decide) hs hpl) (wpa_one hs (h F G σ H W _ fun a vs G1 H1 s1 W1 h1 h2 => ⟨a, vs, rfl, h1, fun l hl => q l _ G1 _ s1 (W1.new hl) (W1.tn hl) ⟨vs, rfl, h2⟩⟩))
theorem call_list_txt (hc : X.calm = true) : CallR X (.type "list") (fun xs H Q => ∃ x : List Nat, xs = [vS x] ∧ x.length ≤ sizeLine ∧ ∀ l, H l = none → Q (.ref l) (upd H l (.lst (x.map fun c => vS [c])))) := by
  intro pins s σ H xs us Q I r h
  obtain ⟨x, rfl, hz, q⟩ := h
  obtain ⟨u, rfl, t, rfl⟩ := vals1 r
  refine PySem.call_list_str (I.ok.hd hc) ⟨x.toArray⟩ t (hn := by simpa using hz) fun h' tk acc' c' hk hS' hacc => ?_
  have hv : Vals (x.map fun c => vS [c]) acc'.toList := by
    obtain ⟨h1, h2⟩ := hacc
    have el : acc'.toList.length = x.length := by simpa using h1
    have key : ∀ (l : List Nat) (us : List Value), us.length = l.length → (∀ (j : Nat) (v : Value), us[j]? = some v → ∃ c u, l[j]? = some c ∧ v = .str ⟨#[c]⟩ u) → Vals (l.map fun c => vS [c]) us := by
      intro l
      induction l with
      | nil => intro us hl _; cases us with
        | nil => exact .nil
        | cons _ _ => cases hl
      | cons c l ih => intro us hl hj; cases us with
        | nil => cases hl
        | cons v us =>
          obtain ⟨c', u, e1, e2⟩ := hj 0 v rfl
          cases e1
          exact .cons ⟨u, e2⟩ (ih us (by simpa using hl) fun j v e => hj (j + 1) v (by simpa using e))
    refine key x acc'.toList el fun j v e => ?_
    obtain ⟨c, u, e1, e2⟩ := h2 j v (by simpa using e)
    exact ⟨c, u, by simpa using e1, e2⟩
  exact ⟨.ref _, _, I.laid (t' := tk) (o := .lst (x.map fun c => vS [c])) hk (Nat.le_refl _) ⟨by simpa using hz, acc'.toList, c', hv, by simpa using hS'⟩, rfl, q _ I.fresh⟩
theorem do_listS {x : List Nat} (hm : X.mg "list" = none) (hz : Sz x.length) (h : DE X e Γ .str x Γ1) (hc : X.calm = true := by rfl) (hg : Gl X "list" := by rfl) (hs : starEach [e] X.env = (false, eval e X.env) :: starEach [] X.env := by rfl) (hpl : (backTo pos (starEach [] X.env)).any (·.1) = false := by rfl) : DO X (.Call (.Name "list" p) [e] [] pos) Γ (.lst .str (chars x)) Γ1 := fun F G σ H W Q q =>
  wpe_of (pe_callTy (call_list_txt hc) hg hm (by decide +kernel) pa_wp (by decide) (by decide) hs hpl) (wpa_one hs (h F G σ H W _ fun v G1 H1 s1 W1 r1 => ⟨x, by rw [show v = _ from r1], hz.le, fun l hl => q l _ G1 _ s1 (W1.new hl) (W1.tn hl) ⟨_, rfl, by
    unfold chars
    clear q r1 h hz
    induction x with
    | nil => exact .nil
    | cons c x ih => exact .cons rfl ih⟩⟩))
end
end
end Dn

set_option Elab.async false
set_option linter.all false
set_option maxRecDepth 100000
set_option maxHeartbeats 1000000
/-! Dn, part 9: things as data: == at any depth, in, order, sorted. -/
namespace Dn
open PySem PySem.Spec PyProof.Rows L2 TL

def toPy : (t : Ty) → t.den → PyData
  | .int, x => .int x
  | .bool, x => .bool x
  | .str, x => .str ⟨x.toArray⟩
  | .non, _ => .none
  | .scr, x => .list (x.map fun z => .int z)
  | .opt t, x => match x with
    | none => .none
    | some y => toPy t y
  | .lst t, x => .list (x.map (toPy t))
  | .tup t, x => .tuple (x.map (toPy t))
  | .p2 a b, x => .tuple [toPy a x.1, toPy b x.2]
  | .p3 a b c, x => .tuple [toPy a x.1, toPy b x.2.1, toPy c x.2.2]
  | .p4 a b c d, x => .tuple [toPy a x.1, toPy b x.2.1, toPy c x.2.2.1, toPy d x.2.2.2]
  | .p5 a b c d e, x => .tuple [toPy a x.1, toPy b x.2.1, toPy c x.2.2.1, toPy d x.2.2.2.1, toPy e x.2.2.2.2]
section
variable {K : PySem.W.Frag} {G H : Hp}
theorem dpAll_of {t : Ty} (f : ∀ v x, Rep K t G v x → Dp K H v (toPy t x)) : ∀ {vs : List V} {xs : List t.den}, RepL K t G vs xs → DpAll K H vs (xs.map (toPy t))
  | _, _, .nil => .nil
  | _, _, .cons r t => .cons (f _ _ r) (dpAll_of f t)
theorem dp_ints : ∀ (xs : List Int), DpAll K H (xs.map V.int) (xs.map fun z => PyData.int z)
  | [] => .nil
  | x :: xs => .cons (.int x) (dp_ints xs)
theorem rep_dp (sg : Same G H) : ∀ (t : Ty) (v : V) (x : t.den), Rep K t G v x → Dp K H v (toPy t x)
  | .int, _, _, h => by cases h; exact .int _
  | .bool, _, _, h => by cases h; exact .bl _
  | .str, _, _, h => by cases h; exact .str _
  | .non, _, _, h => by cases h; exact .non
  | .scr, _, x, ⟨a, h1, h2⟩ => by subst h1; exact .lst (sql_mono sg h2) (dp_ints x)
  | .opt t, _, none, h => by cases h; exact .non
  | .opt t, _, some y, h => rep_dp sg t _ y h.2
  | .lst t, _, _, ⟨a, vs, h1, h2, h3⟩ => by subst h1; exact .lst (.inl (rd_mono sg h2)) (dpAll_of (rep_dp sg t) h3)
  | .tup t, _, _, ⟨a, vs, h1, h2, h3⟩ => by subst h1; exact .tup (sqt_mono sg h2) (dpAll_of (rep_dp sg t) h3)
  | .p2 a b, _, _, ⟨p, v1, v2, h0, h1, h2, h3⟩ => by subst h0; exact .tup (sqt_mono sg h1) (.cons (rep_dp sg a _ _ h2) (.cons (rep_dp sg b _ _ h3) .nil))
  | .p3 a b c, _, _, ⟨p, v1, v2, v3, h0, h1, h2, h3, h4⟩ => by subst h0; exact .tup (sqt_mono sg h1) (.cons (rep_dp sg a _ _ h2) (.cons (rep_dp sg b _ _ h3) (.cons (rep_dp sg c _ _ h4) .nil)))
  | .p4 a b c d, _, _, ⟨p, v1, v2, v3, v4, h0, h1, h2, h3, h4, h5⟩ => by subst h0; exact .tup (sqt_mono sg h1) (.cons (rep_dp sg a _ _ h2) (.cons (rep_dp sg b _ _ h3) (.cons (rep_dp sg c _ _ h4) (.cons (rep_dp sg d _ _ h5) .nil))))
  | .p5 a b c d e, _, _, ⟨p, v1, v2, v3, v4, v5, h0, h1, h2, h3, h4, h5, h6⟩ => by subst h0; exact .tup (sqt_mono sg h1) (.cons (rep_dp sg a _ _ h2) (.cons (rep_dp sg b _ _ h3) (.cons (rep_dp sg c _ _ h4) (.cons (rep_dp sg d _ _ h5) (.cons (rep_dp sg e _ _ h6) .nil)))))
end
def Ty.solid : Ty → Bool
  | .opt _ => false | .non => false | _ => true
/-- no opt beneath opt or none: == by data is == -/
def Ty.canEq : Ty → Bool
  | .int => true | .bool => true | .str => true | .non => true
  | .scr => false
  | .opt t => t.canEq && t.solid
  | .lst t => t.canEq | .tup t => t.canEq
  | .p2 a b => a.canEq && b.canEq
  | .p3 a b c => a.canEq && b.canEq && c.canEq
  | .p4 a b c d => a.canEq && b.canEq && c.canEq && d.canEq
  | .p5 a b c d e => a.canEq && b.canEq && c.canEq && d.canEq && e.canEq
def Ty.dec : (t : Ty) → DecidableEq t.den
  | .int => inferInstanceAs (DecidableEq Int)
  | .bool => inferInstanceAs (DecidableEq Bool)
  | .str => inferInstanceAs (DecidableEq (List Nat))
  | .non => inferInstanceAs (DecidableEq Unit)
  | .scr => inferInstanceAs (DecidableEq (List Int))
  | .opt t => by have := t.dec; exact inferInstanceAs (DecidableEq (Option t.den))
  | .lst t => by have := t.dec; exact inferInstanceAs (DecidableEq (List t.den))
  | .tup t => by have := t.dec; exact inferInstanceAs (DecidableEq (List t.den))
  | .p2 a b => by have := a.dec; have := b.dec; exact inferInstanceAs (DecidableEq (a.den × b.den))
  | .p3 a b c => by have := a.dec; have := b.dec; have := c.dec; exact inferInstanceAs (DecidableEq (a.den × b.den × c.den))
  | .p4 a b c d => by have := a.dec; have := b.dec; have := c.dec; have := d.dec; exact inferInstanceAs (DecidableEq (a.den × b.den × c.den × d.den))
  | .p5 a b c d e => by have := a.dec; have := b.dec; have := c.dec; have := d.dec; have := e.dec; exact inferInstanceAs (DecidableEq (a.den × b.den × c.den × d.den × e.den))
theorem eqv_iff_all {t : Ty} (f : ∀ x y : t.den, PyData.eqv (toPy t x) (toPy t y) = true ↔ x = y) : ∀ xs ys : List t.den, PyData.eqvAll (xs.map (toPy t)) (ys.map (toPy t)) = true ↔ xs = ys
  | [], [] => by simp [PyData.eqvAll]
  | [], _ :: _ => by simp [PyData.eqvAll]
  | _ :: _, [] => by simp [PyData.eqvAll]
  | x :: xs, y :: ys => by simp [PyData.eqvAll, f x y, eqv_iff_all f xs ys]
theorem toPy_ne_none : ∀ (t : Ty) (x : t.den), t.solid = true → PyData.eqv .none (toPy t x) = false ∧ PyData.eqv (toPy t x) .none = false
  | .int, _, _ => ⟨rfl, rfl⟩
  | .bool, _, _ => ⟨rfl, rfl⟩
  | .str, _, _ => ⟨rfl, rfl⟩
  | .non, _, h => by cases h
  | .scr, _, _ => by simp [toPy, PyData.eqv]
  | .opt t, _, h => by cases h
  | .lst t, _, _ => by simp [toPy, PyData.eqv]
  | .tup t, _, _ => by simp [toPy, PyData.eqv]
  | .p2 .., _, _ => by simp [toPy, PyData.eqv]
  | .p3 .., _, _ => by simp [toPy, PyData.eqv]
  | .p4 .., _, _ => by simp [toPy, PyData.eqv]
  | .p5 .., _, _ => by simp [toPy, PyData.eqv]
theorem eqv_iff : ∀ (t : Ty), t.canEq = true → ∀ x y : t.den, PyData.eqv (toPy t x) (toPy t y) = true ↔ x = y
  | .int, _, x, y => by simp [toPy, PyData.eqv]
  | .bool, _, x, y => by simp [toPy, PyData.eqv]
  | .str, _, x, y => by
    simp only [toPy, PyData.eqv, beq_iff_eq]
    constructor
    · intro h; injection h with h; exact List.toArray_inj h
    · intro h; rw [h]
  | .non, _, x, y => by simp [toPy, PyData.eqv]
  | .scr, h, _, _ => by cases h
  | .opt t, h, x, y => by
    simp only [Ty.canEq, Bool.and_eq_true] at h
    have n := fun z => toPy_ne_none t z h.2
    cases x with
    | none => cases y with
      | none => simp [toPy, PyData.eqv]
      | some y => simp only [toPy, (n y).1]; simp
    | some x => cases y with
      | none => simp only [toPy, (n x).2]; simp
      | some y => simp only [toPy, eqv_iff t h.1 x y, Option.some.injEq]
  | .lst t, h, x, y => by simp only [toPy, PyData.eqv]; exact eqv_iff_all (eqv_iff t h) x y
  | .tup t, h, x, y => by simp only [toPy, PyData.eqv]; exact eqv_iff_all (eqv_iff t h) x y
  | .p2 a b, h, (x1, x2), (y1, y2) => by
    simp only [Ty.canEq, Bool.and_eq_true] at h
    simp [toPy, PyData.eqv, PyData.eqvAll, eqv_iff a h.1, eqv_iff b h.2]
  | .p3 a b c, h, (x1, x2, x3), (y1, y2, y3) => by
    simp only [Ty.canEq, Bool.and_eq_true] at h
    simp [toPy, PyData.eqv, PyData.eqvAll, eqv_iff a h.1.1, eqv_iff b h.1.2, eqv_iff c h.2]
  | .p4 a b c d, h, (x1, x2, x3, x4), (y1, y2, y3, y4) => by
    simp only [Ty.canEq, Bool.and_eq_true] at h
    simp [toPy, PyData.eqv, PyData.eqvAll, eqv_iff a h.1.1.1, eqv_iff b h.1.1.2, eqv_iff c h.1.2, eqv_iff d h.2]
  | .p5 a b c d e, h, (x1, x2, x3, x4, x5), (y1, y2, y3, y4, y5) => by
    simp only [Ty.canEq, Bool.and_eq_true] at h
    simp [toPy, PyData.eqv, PyData.eqvAll, eqv_iff a h.1.1.1.1, eqv_iff b h.1.1.1.2, eqv_iff c h.1.1.2, eqv_iff d h.1.2, eqv_iff e h.2]
theorem eqv_dec {t : Ty} [DecidableEq t.den] (h : t.canEq = true) (x y : t.den) : PyData.eqv (toPy t x) (toPy t y) = decide (x = y) := by
  by_cases e : x = y
  · rw [decide_eq_true e]; exact (eqv_iff t h x y).mpr e
  · rw [decide_eq_false e]
    cases q : PyData.eqv (toPy t x) (toPy t y) with
    | true => exact absurd ((eqv_iff t h x y).mp q) e
    | false => rfl
/-- the texts within have signs -/
def Lay (t : Ty) (x : t.den) : Prop := (toPy t x).canLay0 = true
def Ty.noStr : Ty → Bool
  | .int => true | .bool => true | .str => false | .non => true
  | .scr => false
  | .opt t => t.noStr | .lst t => t.noStr | .tup t => t.noStr
  | .p2 a b => a.noStr && b.noStr
  | .p3 a b c => a.noStr && b.noStr && c.noStr
  | .p4 a b c d => a.noStr && b.noStr && c.noStr && d.noStr
  | .p5 a b c d e => a.noStr && b.noStr && c.noStr && d.noStr && e.noStr
theorem layAll {t : Ty} {xs : List t.den} : PyData.canLayAll0 (xs.map (toPy t)) = true ↔ ∀ x ∈ xs, Lay t x := by
  induction xs with
  | nil => simp [PyData.canLayAll0]
  | cons x xs ih => simp [PyData.canLayAll0, ih, Lay]
theorem lay_lst {t : Ty} {xs : List t.den} : Lay (.lst t) xs ↔ ∀ x ∈ xs, Lay t x := by unfold Lay; simp only [toPy, PyData.canLay0]; exact layAll
theorem lay_tup {t : Ty} {xs : List t.den} : Lay (.tup t) xs ↔ ∀ x ∈ xs, Lay t x := by unfold Lay; simp only [toPy, PyData.canLay0]; exact layAll
theorem lay_str {x : List Nat} : Lay .str x ↔ ∀ c ∈ x, c < 1114112 := by
  unfold Lay
  simp [toPy, PyData.canLay0, PyData.strOk]
theorem lay_p2 {a b : Ty} {x : a.den × b.den} : Lay (.p2 a b) x ↔ Lay a x.1 ∧ Lay b x.2 := by simp [Lay, toPy, PyData.canLay0, PyData.canLayAll0]
theorem lay_p3 {a b c : Ty} {x : a.den × b.den × c.den} : Lay (.p3 a b c) x ↔ Lay a x.1 ∧ Lay b x.2.1 ∧ Lay c x.2.2 := by simp [Lay, toPy, PyData.canLay0, PyData.canLayAll0]
theorem lay_p4 {a b c d : Ty} {x : a.den × b.den × c.den × d.den} : Lay (.p4 a b c d) x ↔ Lay a x.1 ∧ Lay b x.2.1 ∧ Lay c x.2.2.1 ∧ Lay d x.2.2.2 := by simp [Lay, toPy, PyData.canLay0, PyData.canLayAll0]
theorem lay_p5 {a b c d e : Ty} {x : a.den × b.den × c.den × d.den × e.den} : Lay (.p5 a b c d e) x ↔ Lay a x.1 ∧ Lay b x.2.1 ∧ Lay c x.2.2.1 ∧ Lay d x.2.2.2.1 ∧ Lay e x.2.2.2.2 := by simp [Lay, toPy, PyData.canLay0, PyData.canLayAll0]
theorem lay_no : ∀ (t : Ty), t.noStr = true → ∀ x : t.den, Lay t x
  | .int, _, _ => rfl
  | .bool, _, _ => rfl
  | .str, h, _ => by cases h
  | .scr, h, _ => by cases h
  | .non, _, _ => rfl
  | .opt t, h, none => rfl
  | .opt t, h, some y => lay_no t h y
  | .lst t, h, x => lay_lst.mpr fun y _ => lay_no t h y
  | .tup t, h, x => lay_tup.mpr fun y _ => lay_no t h y
  | .p2 a b, h, x => by
    simp only [Ty.noStr, Bool.and_eq_true] at h
    exact lay_p2.mpr ⟨lay_no a h.1 _, lay_no b h.2 _⟩
  | .p3 a b c, h, x => by
    simp only [Ty.noStr, Bool.and_eq_true] at h
    exact lay_p3.mpr ⟨lay_no a h.1.1 _, lay_no b h.1.2 _, lay_no c h.2 _⟩
  | .p4 a b c d, h, x => by
    simp only [Ty.noStr, Bool.and_eq_true] at h
    exact lay_p4.mpr ⟨lay_no a h.1.1.1 _, lay_no b h.1.1.2 _, lay_no c h.1.2 _, lay_no d h.2 _⟩
  | .p5 a b c d e, h, x => by
    simp only [Ty.noStr, Bool.and_eq_true] at h
    exact lay_p5.mpr ⟨lay_no a h.1.1.1.1 _, lay_no b h.1.1.1.2 _, lay_no c h.1.1.2 _, lay_no d h.1.2 _, lay_no e h.2 _⟩
def Ty.dep : Ty → Nat
  | .int => 0 | .bool => 0 | .str => 0 | .non => 0
  | .scr => 1
  | .opt t => t.dep
  | .lst t => t.dep + 1 | .tup t => t.dep + 1
  | .p2 a b => max a.dep b.dep + 1
  | .p3 a b c => max a.dep (max b.dep c.dep) + 1
  | .p4 a b c d => max a.dep (max b.dep (max c.dep d.dep)) + 1
  | .p5 a b c d e => max a.dep (max b.dep (max c.dep (max d.dep e.dep))) + 1
theorem depAll {t : Ty} (f : ∀ x, (toPy t x).depth ≤ t.dep) : ∀ xs : List t.den, PyData.depthAll (xs.map (toPy t)) ≤ t.dep
  | [] => by simp [PyData.depthAll]
  | x :: xs => by
    have h1 := f x
    have h2 := depAll f xs
    simp only [List.map_cons, PyData.depthAll]
    omega
theorem depInts : ∀ xs : List Int, PyData.depthAll (xs.map fun z => PyData.int z) ≤ 0
  | [] => by simp [PyData.depthAll]
  | x :: xs => by have := depInts xs; simp only [List.map_cons, PyData.depthAll, PyData.depth]; omega
theorem dep_le : ∀ (t : Ty) (x : t.den), (toPy t x).depth ≤ t.dep
  | .int, _ => by simp [toPy, PyData.depth]
  | .bool, _ => by simp [toPy, PyData.depth]
  | .str, _ => by simp [toPy, PyData.depth]
  | .non, _ => by simp [toPy, PyData.depth]
  | .scr, x => by have := depInts x; simp only [toPy, PyData.depth, Ty.dep]; omega
  | .opt t, none => by simp [toPy, PyData.depth]
  | .opt t, some y => dep_le t y
  | .lst t, x => by have := depAll (dep_le t) x; simp only [toPy, PyData.depth, Ty.dep]; omega
  | .tup t, x => by have := depAll (dep_le t) x; simp only [toPy, PyData.depth, Ty.dep]; omega
  | .p2 a b, x => by have h1 := dep_le a x.1; have h2 := dep_le b x.2; simp only [toPy, PyData.depth, PyData.depthAll, Ty.dep]; omega
  | .p3 a b c, x => by have h1 := dep_le a x.1; have h2 := dep_le b x.2.1; have h3 := dep_le c x.2.2; simp only [toPy, PyData.depth, PyData.depthAll, Ty.dep]; omega
  | .p4 a b c d, x => by have h1 := dep_le a x.1; have h2 := dep_le b x.2.1; have h3 := dep_le c x.2.2.1; have h4 := dep_le d x.2.2.2; simp only [toPy, PyData.depth, PyData.depthAll, Ty.dep]; omega
  | .p5 a b c d e, x => by have h1 := dep_le a x.1; have h2 := dep_le b x.2.1; have h3 := dep_le c x.2.2.1; have h4 := dep_le d x.2.2.2.1; have h5 := dep_le e x.2.2.2.2; simp only [toPy, PyData.depth, PyData.depthAll, Ty.dep]; omega
theorem shaped_of {t : Ty} {x : t.den} (h : Lay t x) (hd : t.dep ≤ 60) : SeqAt.shaped (toPy t x) = true := by
  show ((toPy t x).canLay0 && decide ((toPy t x).depth ≤ 64)) = true
  rw [Bool.and_eq_true]
  exact ⟨h, decide_eq_true (by have := dep_le t x; omega)⟩
section
variable {X : Cx} {a b e : Expr} {es : List Expr} {pos p : Pos} {Γ Γ1 Γ2 Γ3 : List Slot} {t u : Ty} {x y : t.den} {xs ys : List t.den}
/-- == of things of one type -/
theorem dc_eq {k : Nat} (hr : Room k X.A) (hl : Lay t x) (hl2 : Lay t y) [DecidableEq t.den] (ha : DE X a Γ t x Γ1) (hb : DE X b Γ1 t y Γ2) (he : t.canEq = true := by rfl) (hd : t.dep ≤ 60 := by decide) : DC X .Eq a b Γ (decide (x = y)) Γ2 := fun F G σ H W Q q =>
  wpc_of (pc_op (op_eqD hr.units) pe_wp pe_wp) (ev_op (τ := .bool) (c := decide (x = y)) ha hb (fun G H v w Q sg r1 r2 q => ⟨toPy t x, toPy t y, rep_dp sg t v x r1, rep_dp sg t w y r2, shaped_of hl hd, shaped_of hl2 hd, q _ (by rw [eqv_dec he]; rfl)⟩) F G σ H W Q q)
theorem dc_ne {k : Nat} (hr : Room k X.A) (hl : Lay t x) (hl2 : Lay t y) [DecidableEq t.den] (ha : DE X a Γ t x Γ1) (hb : DE X b Γ1 t y Γ2) (he : t.canEq = true := by rfl) (hd : t.dep ≤ 60 := by decide) : DC X .NotEq a b Γ (!decide (x = y)) Γ2 := fun F G σ H W Q q =>
  wpc_of (pc_op (op_neD hr.units) pe_wp pe_wp) (ev_op (τ := .bool) (c := !decide (x = y)) ha hb (fun G H v w Q sg r1 r2 q => ⟨toPy t x, toPy t y, rep_dp sg t v x r1, rep_dp sg t w y r2, shaped_of hl hd, shaped_of hl2 hd, q _ (by rw [eqv_dec he]; rfl)⟩) F G σ H W Q q)

/-! ### in -/
def rInQ (K : PySem.W.Frag) (neg : Bool) : R2 := fun x y H Q => ∃ d ds, Dp K H x d ∧ (Dp K H y (.list ds) ∨ Dp K H y (.tuple ds)) ∧ SeqAt.shaped d = true ∧ PyData.canLayAll0 ds = true ∧ Q (.bl (if neg then !ds.any (fun z => PyData.eqv z d) else ds.any fun z => PyData.eqv z d)) H
theorem op_inQ (hu : X.A.units + 65 < cLine) : OpR X (compareOp .In) (rInQ X.K false) := by
  intro pins s σ H x y v u Q I rx ry h
  obtain ⟨d, ds, hd, he, sd, se, q⟩ := h
  obtain ⟨as, r1⟩ := Dp.reads I d x v hd rx
  rcases he with he | he
  · obtain ⟨bs, r2⟩ := Dp.reads I (.list ds) y u he ry
    exact SeqAt.in_list_reads r2 r1 se (SeqAt.canLay_of_shaped sd) (room_in_shaped sd hu) ⟨.bl _, H, I, rfl, q⟩
  · obtain ⟨bs, r2⟩ := Dp.reads I (.tuple ds) y u he ry
    exact SeqAt.in_tuple_reads r2 r1 se (SeqAt.canLay_of_shaped sd) (room_in_shaped sd hu) ⟨.bl _, H, I, rfl, q⟩
theorem op_notInQ (hu : X.A.units + 65 < cLine) : OpR X (compareOp .NotIn) (rInQ X.K true) := by
  intro pins s σ H x y v u Q I rx ry h
  obtain ⟨d, ds, hd, he, sd, se, q⟩ := h
  obtain ⟨as, r1⟩ := Dp.reads I d x v hd rx
  rcases he with he | he
  · obtain ⟨bs, r2⟩ := Dp.reads I (.list ds) y u he ry
    exact SeqAt.notIn_list_reads r2 r1 se (SeqAt.canLay_of_shaped sd) (room_in_shaped sd hu) ⟨.bl _, H, I, rfl, q⟩
  · obtain ⟨bs, r2⟩ := Dp.reads I (.tuple ds) y u he ry
    exact SeqAt.notIn_tuple_reads r2 r1 se (SeqAt.canLay_of_shaped sd) (room_in_shaped sd hu) ⟨.bl _, H, I, rfl, q⟩
theorem Room.u65 {k : Nat} {A : Around} (r : Room k A) : A.units + 65 < cLine := by have := r.un; omega
theorem any_dec [DecidableEq t.den] (he : t.canEq = true) : ∀ (xs : List t.den), ((xs.map (toPy t)).any fun z => PyData.eqv z (toPy t x)) = decide (x ∈ xs)
  | [] => by simp
  | y :: xs => by
    rw [List.map_cons, List.any_cons, eqv_dec he, any_dec he xs, Bool.eq_iff_iff]
    simp only [Bool.or_eq_true, decide_eq_true_eq, List.mem_cons]
    constructor
    · rintro (h | h)
      · exact .inl h.symm
      · exact .inr h
    · rintro (h | h)
      · exact .inl h.symm
      · exact .inr h
theorem dpL_of {K : PySem.W.Frag} {G H : Hp} (sg : Same G H) {q : Addr} {vs : List V} (h : SqL K H q vs ∨ SqT K H q vs) (r : RepL K t G vs xs) : Dp K H (.ref q) (.list (xs.map (toPy t))) ∨ Dp K H (.ref q) (.tuple (xs.map (toPy t))) := by
  rcases h with h | h
  · exact .inl (.lst h (dpAll_of (rep_dp sg t) r))
  · exact .inr (.tup h (dpAll_of (rep_dp sg t) r))
theorem dc_in {k : Nat} (hr : Room k X.A) (hl : Lay t x) (hl2 : ∀ y ∈ xs, Lay t y) [DecidableEq t.den] (ha : DE X a Γ t x Γ1) (hb : DQ X b Γ1 t xs Γ2) (he : t.canEq = true := by rfl) (hd : t.dep ≤ 60 := by decide) : DC X .In a b Γ (decide (x ∈ xs)) Γ2 := fun F G σ H W Q q =>
  wpc_of (pc_op (op_inQ (Room.u65 hr)) pe_wp pe_wp) (ha F G σ H W _ fun v G1 H1 s1 W1 r1 => hb F G1 σ H1 W1 _ fun q2 vs G2 H2 s2 W2 h1 h2 =>
    ⟨toPy t x, xs.map (toPy t), rep_dp W2.gh t v x (rep_mono s2 t v x r1), dpL_of W2.gh h1 h2, shaped_of hl hd, layAll.mpr hl2, q _ G2 H2 (s1.trans s2) W2 (by rw [if_neg Bool.false_ne_true, any_dec he]; rfl)⟩)
theorem dc_nin {k : Nat} (hr : Room k X.A) (hl : Lay t x) (hl2 : ∀ y ∈ xs, Lay t y) [DecidableEq t.den] (ha : DE X a Γ t x Γ1) (hb : DQ X b Γ1 t xs Γ2) (he : t.canEq = true := by rfl) (hd : t.dep ≤ 60 := by decide) : DC X .NotIn a b Γ (!decide (x ∈ xs)) Γ2 := fun F G σ H W Q q =>
  wpc_of (pc_op (op_notInQ (Room.u65 hr)) pe_wp pe_wp) (ha F G σ H W _ fun v G1 H1 s1 W1 r1 => hb F G1 σ H1 W1 _ fun q2 vs G2 H2 s2 W2 h1 h2 =>
    ⟨toPy t x, xs.map (toPy t), rep_dp W2.gh t v x (rep_mono s2 t v x r1), dpL_of W2.gh h1 h2, shaped_of hl hd, layAll.mpr hl2, q _ G2 H2 (s1.trans s2) W2 (by rw [if_pos rfl, any_dec he]; rfl)⟩)
end

/-! ### order -/
def ltL {α : Type} (eq lt : α → α → Bool) : List α → List α → Bool
  | [], [] => false
  | [], _ :: _ => true
  | _ :: _, [] => false
  | x :: xs, y :: ys => if eq x y = true then ltL eq lt xs ys else lt x y
/-- x < y -/
def ltT : (t : Ty) → t.den → t.den → Bool
  | .int, x, y => decide (x < y)
  | .bool, x, y => decide (b2z x < b2z y)
  | .str, x, y => decide (x < y)
  | .non, _, _ => false
  | .opt _, _, _ => false
  | .lst t, x, y => ltL (fun a b => PyData.eqv (toPy t a) (toPy t b)) (ltT t) x y
  | .tup t, x, y => ltL (fun a b => PyData.eqv (toPy t a) (toPy t b)) (ltT t) x y
  | .p2 a b, x, y => if PyData.eqv (toPy a x.1) (toPy a y.1) = true then ltT b x.2 y.2 else ltT a x.1 y.1
  | .p3 a b c, x, y => if PyData.eqv (toPy a x.1) (toPy a y.1) = true then (if PyData.eqv (toPy b x.2.1) (toPy b y.2.1) = true then ltT c x.2.2 y.2.2 else ltT b x.2.1 y.2.1) else ltT a x.1 y.1
  | _, _, _ => false
/-- things of the type can be put in order -/
def Ty.canLt : Ty → Bool
  | .int => true | .bool => true | .str => true
  | .lst t => t.canLt | .tup t => t.canLt
  | .p2 a b => a.canLt && b.canLt
  | .p3 a b c => a.canLt && b.canLt && c.canLt
  | _ => false
open PySem.W in
theorem alike_all {t : Ty} (f : ∀ x y : t.den, alike (toPy t x) (toPy t y) = true) : ∀ xs ys : List t.den, alikeAll (xs.map (toPy t)) (ys.map (toPy t)) = true
  | [], ys => by simp [alikeAll]
  | _ :: _, [] => by simp [alikeAll]
  | x :: xs, y :: ys => by simp [alikeAll, f x y, alike_all f xs ys]
open PySem.W in
theorem alike_of : ∀ (t : Ty), t.canLt = true → ∀ x y : t.den, alike (toPy t x) (toPy t y) = true
  | .int, _, _, _ => by simp [toPy, alike]
  | .bool, _, _, _ => by simp [toPy, alike]
  | .str, _, _, _ => by simp [toPy, alike]
  | .lst t, h, x, y => by simp only [toPy, alike]; exact alike_all (alike_of t h) x y
  | .tup t, h, x, y => by simp only [toPy, alike]; exact alike_all (alike_of t h) x y
  | .p2 a b, h, x, y => by
    simp only [Ty.canLt, Bool.and_eq_true] at h
    simp [toPy, alike, alikeAll, alike_of a h.1, alike_of b h.2]
  | .p3 a b c, h, x, y => by
    simp only [Ty.canLt, Bool.and_eq_true] at h
    simp [toPy, alike, alikeAll, alike_of a h.1.1, alike_of b h.1.2, alike_of c h.2]
  | .non, h, _, _ => by cases h
  | .opt _, h, _, _ => by cases h
  | .scr, h, _, _ => by cases h
  | .p4 .., h, _, _ => by cases h
  | .p5 .., h, _, _ => by cases h
open PySem.W in
theorem lt_all {t : Ty} (hc : t.canLt = true) (f : ∀ x y : t.den, dataLt (toPy t x) (toPy t y) = ltT t x y) : ∀ xs ys : List t.den, PyProof.Rows.lexLt itemOrd (keyToksAll (xs.map (toPy t))) (keyToksAll (ys.map (toPy t))) = ltL (fun a b => PyData.eqv (toPy t a) (toPy t b)) (ltT t) xs ys
  | [], [] => lex_irrefl _
  | [], y :: ys => by
    simp only [List.map_nil, List.map_cons, keyToksAll, ltL]
    rw [lex_atom (by simp) [] _]
    rfl
  | x :: xs, [] => by
    simp only [List.map_nil, List.map_cons, keyToksAll, ltL]
    rw [lex_atom (by simp) _ []]
    rfl
  | x :: xs, y :: ys => by
    simp only [List.map_cons, ltL]
    rw [dataLt_cons (alike_of t hc x y), lt_all hc f xs ys, f x y]
open PySem.W in
theorem lt_irr {x y : PyData} (h : alike x y = true) (e : PyData.eqv x y = true) : dataLt x y = false := by
  unfold dataLt
  rw [(toks_eqv x y h).1 e]
  exact lex_irrefl _
open PySem.W in
theorem lt_data : ∀ (t : Ty), t.canLt = true → ∀ x y : t.den, dataLt (toPy t x) (toPy t y) = ltT t x y
  | .int, _, x, y => dataLt_int x y
  | .bool, _, x, y => by
    show dataLt (.bool x) (.bool y) = _
    rw [dataLt_bool]
    cases x <;> cases y <;> rfl
  | .str, _, x, y => dataLt_str _ _
  | .lst t, h, x, y => by
    show dataLt (.list _) (.list _) = _
    rw [dataLt_list]
    exact lt_all (t := t) h (lt_data t h) x y
  | .tup t, h, x, y => by
    show dataLt (.tuple _) (.tuple _) = _
    rw [dataLt_tuple]
    exact lt_all (t := t) h (lt_data t h) x y
  | .p2 a b, h, x, y => by
    simp only [Ty.canLt, Bool.and_eq_true] at h
    show dataLt (.tuple _) (.tuple _) = _
    rw [dataLt_tuple, dataLt_cons (alike_of a h.1 _ _), dataLt_cons (alike_of b h.2 _ _), lt_data a h.1, lt_data b h.2]
    have e : PyProof.Rows.lexLt itemOrd (keyToksAll []) (keyToksAll []) = false := lex_irrefl _
    rw [e]
    show _ = (if PyData.eqv (toPy a x.1) (toPy a y.1) = true then ltT b x.2 y.2 else ltT a x.1 y.1)
    by_cases h2 : PyData.eqv (toPy b x.2) (toPy b y.2) = true
    · rw [if_pos h2, ← lt_data b h.2, lt_irr (alike_of b h.2 _ _) h2]
    · rw [if_neg h2]
  | .p3 a b c, h, x, y => by
    simp only [Ty.canLt, Bool.and_eq_true] at h
    show dataLt (.tuple _) (.tuple _) = _
    rw [dataLt_tuple, dataLt_cons (alike_of a h.1.1 _ _), dataLt_cons (alike_of b h.1.2 _ _), dataLt_cons (alike_of c h.2 _ _), lt_data a h.1.1, lt_data b h.1.2, lt_data c h.2]
    have e : PyProof.Rows.lexLt itemOrd (keyToksAll []) (keyToksAll []) = false := lex_irrefl _
    rw [e]
    show _ = (if PyData.eqv (toPy a x.1) (toPy a y.1) = true then (if PyData.eqv (toPy b x.2.1) (toPy b y.2.1) = true then ltT c x.2.2 y.2.2 else ltT b x.2.1 y.2.1) else ltT a x.1 y.1)
    by_cases h2 : PyData.eqv (toPy c x.2.2) (toPy c y.2.2) = true
    · rw [if_pos h2, ← lt_data c h.2, lt_irr (alike_of c h.2 _ _) h2]
    · rw [if_neg h2]
  | .non, h, _, _ => by cases h
  | .opt _, h, _, _ => by cases h
  | .scr, h, _, _ => by cases h
  | .p4 .., h, _, _ => by cases h
  | .p5 .., h, _, _ => by cases h
/-- at most, by < -/
def leT (t : Ty) (x y : t.den) : Bool := !ltT t y x
def sortT (t : Ty) (xs : List t.den) : List t.den := xs.mergeSort (leT t)
open PySem.W in
theorem le_data {t : Ty} (h : t.canLt = true) : dataLe false (toPy t) = leT t := by
  funext x y
  show (!dataLt (toPy t y) (toPy t x)) = _
  rw [lt_data t h]
  rfl
/-- tuples of two or more, or flat things: what sorted takes -/
def Ty.canSort : Ty → Bool
  | .p2 a b => a.canLt && b.canLt
  | .p3 a b c => a.canLt && b.canLt && c.canLt
  | .int => true | .bool => true | .str => true
  | .lst t => t.canLt
  | _ => false
theorem canLt_of {t : Ty} (h : t.canSort = true) : t.canLt = true := by
  cases t <;> first | exact h | cases h
open PySem.W in
theorem sortable {t : Ty} (h : t.canSort = true) (xs : List t.den) : Sortable (xs.map (toPy t)) := by
  cases t with
  | p2 a b => exact .tuples fun x => ⟨_, _, rfl⟩
  | p3 a b c => exact .tuples fun x => ⟨_, _, rfl⟩
  | int => exact .others fun x => ⟨fun z => (by simp [toPy] at z), fun ys z => (by simp [toPy] at z)⟩
  | bool => exact .others fun x => ⟨fun z => (by simp [toPy] at z), fun ys z => (by simp [toPy] at z)⟩
  | str => exact .others fun x => ⟨fun z => (by simp [toPy] at z), fun ys z => (by simp [toPy] at z)⟩
  | lst t => exact .others fun x => ⟨fun z => (by simp [toPy] at z), fun ys z => (by simp [toPy] at z)⟩
  | _ => cases h
section
variable {X : Cx} {a b e : Expr} {es : List Expr} {pos p : Pos} {Γ Γ1 Γ2 Γ3 : List Slot} {t u : Ty} {x y : t.den} {xs ys : List t.den}
open PySem.W in
theorem each_of {K : PySem.W.Frag} {G : Hp} : ∀ {vs : List V} {xs : List t.den} {us : List Value}, RepL K t G vs xs → Vals vs us → EachIs (fun u x => ∃ v, RelV v u ∧ Rep K t G v x) us xs
  | _, _, _, .nil, .nil => .nil
  | _, _, _, .cons r t, .cons r' t' => .cons ⟨_, r', r⟩ (each_of t t')
open PySem.W in
theorem each_back {K : PySem.W.Frag} {G : Hp} : ∀ {us : List Value} {xs : List t.den}, EachIs (fun u x => ∃ v, RelV v u ∧ Rep K t G v x) us xs → ∃ vs, RepL K t G vs xs ∧ Vals vs us
  | _, _, .nil => ⟨[], .nil, .nil⟩
  | _, _, .cons r t => by
    obtain ⟨v, h1, h2⟩ := r
    obtain ⟨vs, h3, h4⟩ := each_back t
    exact ⟨v :: vs, .cons h2 h3, .cons h1 h4⟩
/-- sorted(xs) -/
def rSortD (K : PySem.W.Frag) (t : Ty) : List V → Hp → VK → Prop := fun vs H Q => ∃ (a : Addr) (us : List V) (G : Hp) (xs : List t.den), vs = [V.ref a] ∧ SqL K H a us ∧ Same G H ∧ RepL K t G us xs ∧ Sz xs.length ∧
  ∀ (ws : List V) (p : Addr), RepL K t G ws (sortT t xs) → H p = none → Q (.ref p) (upd H p (.lst ws))
open PySem.W in
theorem cr_sortD {k : Nat} (hr : Room k X.A) (hc : t.canSort = true) (hd : t.dep ≤ 60) : CallR X (.builtin "sorted") (rSortD X.K t) := by
  intro pins s σ H vs us Q I r h
  obtain ⟨a, vs1, G, xs, rfl, hs, sg, rep, hz, q⟩ := h
  obtain ⟨its, rv, hl, _⟩ := I.list hs
  rw [Vals.ref1 r]
  have ee := each_of rep rv
  have hb := canLt_of hc
  refine sorted_data (vs := its) (R := fun u x => ∃ v, RelV v u ∧ Rep X.K t G v x) (enc := toPy t) (bs := xs) hl.isList ee (ee.mono fun u x ⟨v, h1, h2⟩ => Dp.reads I _ v u (rep_dp sg t v x h2) h1) (AllAlike.of (alike_of t hb)) (sortable hc xs) hz.le
    (fun b _ => by
      have h1 := hr.units
      have h2 := dep_le t b
      omega) fun out hlen ho => ?_
  rw [le_data hb] at ho
  obtain ⟨ws, h1, h2⟩ := each_back ho
  obtain ⟨ep, he'⟩ := PyProof.Rows.sortedAll_at s.heap its (List.toArray out)
  have hwl : ws.length ≤ sizeLine := by
    have e1 := pair_len h1
    rw [e1, List.length_mergeSort]; exact hz.le
  exact ⟨.ref _, upd H (s.heap.objs.size + 1) (.lst ws), I.laid (t' := s.toks) (fun _ _ => PyProof.Rows.sortedAll_old) (Nat.le_succ _) ⟨hwl, out, ep, h2, he'⟩, rfl, q ws _ h1 (I.hok.fresh (Nat.le_succ _))⟩
theorem do_sorted {k : Nat} (hr : Room k X.A) (hm : X.mg "sorted" = none) (hz : Sz xs.length) (h : DL X e Γ t xs Γ1) (hc : t.canSort = true := by rfl) (hd : t.dep ≤ 60 := by decide) (hg : Gl X "sorted" := by rfl) (hs : starEach [e] X.env = (false, eval e X.env) :: starEach [] X.env := by rfl) (hpl : (backTo pos (starEach [] X.env)).any (·.1) = false := by rfl) : DO X (.Call (.Name "sorted" p) [e] [] pos) Γ (.lst t (sortT t xs)) Γ1 := fun F G σ H W Q q =>
  wpe_of (pe_callB (cr_sortD hr hc hd) hg hm (by decide +kernel) pa_wp (by decide) (by decide) hs hpl) (wpa_one hs (h F G σ H W _ fun a vs G1 H1 s1 W1 h1 h2 => ⟨a, vs, G1, xs, rfl, h1, W1.gh, h2, hz, fun ws p hw hp => q p _ G1 _ s1 (W1.new hp) (W1.tn hp) ⟨ws, rfl, hw⟩⟩))
/-- x < y of tuples -/
def rLtD (K : PySem.W.Frag) (t : Ty) : R2 := fun x y H Q => ∃ (d e : t.den), Dp K H x (toPy t d) ∧ Dp K H y (toPy t e) ∧ Q (.bl (ltT t d e)) H
open PySem.W in
theorem op_ltD {k : Nat} (hr : Room k X.A) (hc : t.canLt = true) (hd : t.dep ≤ 60) : OpR X (compareOp .Lt) (rLtD X.K t) := by
  intro pins s σ H x y v u Q I rx ry h
  obtain ⟨d, e, h1, h2, q⟩ := h
  obtain ⟨as, r1⟩ := Dp.reads I _ x v h1 rx
  obtain ⟨bs, r2⟩ := Dp.reads I _ y u h2 ry
  have hne : toPy t d ≠ .none := by
    cases t <;> first | (simp [toPy]; done) | cases hc
  have key := rcLt_alike (toPy t d) (toPy t e) X.A s v u as bs r1 r2 (alike_of t hc d e) hne (by
    have h1 := hr.units
    have h2 := dep_le t d
    omega)
  show wpAny _ _ (richCompare .Lt v u) _ _ _
  exact key _ _ _ _ ⟨.bl _, H, I, rfl, by rw [lt_data t hc]; exact q⟩
end
end Dn

set_option Elab.async false
set_option linter.all false
set_option maxRecDepth 100000
set_option maxHeartbeats 1000000
/-! Dn, part 10: methods of owned lists; texts; any, all, sum; isinstance; several targets. -/
namespace Dn
open PySem PySem.Spec PyProof.Rows L2 TL

section
variable {K : PySem.W.Frag} {F : Fx} {G H : Hp} {σ : L2.St} {Γ : List Slot} {i : Nat} {t : Ty} {xs xs' : List t.den} {pin : Bool}
theorem Wd.mutate {p : Addr} {vs' : List V} (W : Wd K F G σ H Γ) (hi : Γ[i]? = some (.ow pin (.lst t xs))) (hp : σ[i]? = some (some (.ref p))) (r : RepL K t G vs' xs') : Wd K F G σ (upd H p (.lst vs')) (Γ.set i (.ow pin (.lst t xs'))) := by
  obtain ⟨b, ho, e1, e2, e3, e4, e5, e6⟩ := W.sl i _ hi
  rw [hp] at e1; cases e1
  refine W.callB hi hp (Same.refl G) (fun c o e => ?_) (fun c o ne e => ?_) (fun c o _ n => n) upd_same ⟨vs', rfl, r⟩
  · rw [upd_ne (ne_of_none e e2)]; exact W.gh c o e
  · rw [upd_ne ne]; exact e
theorem Wd.owned (W : Wd K F G σ H Γ) (hi : Γ[i]? = some (.ow pin (.lst t xs))) : ∃ p vs, σ[i]? = some (some (.ref p)) ∧ H p = some (.lst vs) ∧ RepL K t G vs xs := by
  obtain ⟨b, ho, e1, e2, e3, e4, e5, e6⟩ := W.sl i _ hi
  obtain ⟨vs, rfl, r⟩ := e5
  exact ⟨b, vs, e1, e4, r⟩
theorem Wd.owName (W : Wd K F G σ H Γ) (h0 : (Γ[i]?.map Slot.isOw) = some true) : ∃ p, σ[i]? = some (some (.ref p)) := by
  cases e : Γ[i]? with
  | none => rw [e] at h0; cases h0
  | some s =>
    cases s with
    | ow pin o => obtain ⟨p, _, h1, _⟩ := W.sl i _ e; exact ⟨p, h1⟩
    | _ => rw [e] at h0; cases h0
theorem Wd.tyL (W : Wd K F G σ H Γ) {p : Addr} (h0 : (Γ[i]?.map Slot.isOw) = some true) (hp : σ[i]? = some (some (.ref p))) : ∃ vs, H p = some (.lst vs) := by
  cases e : Γ[i]? with
  | none => rw [e] at h0; cases h0
  | some s =>
    cases s with
    | ow pin o =>
      cases o with
      | lst t xs =>
        obtain ⟨p', vs, h1, h2, _⟩ := W.owned e
        rw [hp] at h1; cases h1
        exact ⟨vs, h2⟩
    | _ => rw [e] at h0; cases h0
end
section
variable {X : Cx} {ρ : Type} {R : RI ρ} {a b e : Expr} {es : List Expr} {pos p cpos apos npos : Pos} {Γ Γ1 Γ2 Γ3 : List Slot} {t u : Ty} {xs ys : List t.den} {n : Str}
/-- n.append(e) -/
theorem ds_app (i : Nat) {pin : Bool} {x : t.den} (hz : Sz xs.length) (he : DE X e Γ t x Γ1) (h : Γ1[i]? = some (.ow pin (.lst t xs)) := by rfl) (h0 : (Γ[i]?.map Slot.isOw) = some true := by rfl) (hN : X.N[i]? = some n := by rfl) (hv : Vis X.env.scope n := by first | exact Or.inl rfl | exact Or.inr (Or.inl rfl) | exact Or.inr (Or.inr rfl))
    (hd : (n == ("__debug__" : Str)) = false := by decide) (hcd : (n == ("__classdict__" : Str)) = false := by decide) (hbase : attributeBase (.Name n npos) "append" X.env (eval (.Name n npos) X.env) = eval (.Name n npos) X.env := by rfl)
    (hfew : ((backTo cpos (starEach [e] X.env)).all (fun x => !x.1) && (backToKw cpos (keywordEach [] X.env)).all (fun x => x.1.isSome) && decide (([e] : List Expr).length + ([] : List Keyword).length + (if ([] : List Keyword).isEmpty then 0 else 1) < 30)) = true := by rfl)
    (hline : (apos.endLine == cpos.line) = true := by rfl) (hs : starEach [e] X.env = (false, eval e X.env) :: starEach [] X.env := by rfl) (hpl : (backTo cpos (starEach [] X.env)).any (·.1) = false := by rfl) (hsw : swapsWith (.Call (.Attribute (.Name n npos) "append" apos) [e] [] cpos) none pos.line X.env = pure false := by rfl) :
    DS X R (.Expr (.Call (.Attribute (.Name n npos) "append" apos) [e] [] cpos) pos) Γ (.nx (Γ1.set i (.ow pin (.lst t (xs ++ [x]))))) := fun F G σ H W D q => by
  obtain ⟨p, hp⟩ := W.owName h0
  obtain ⟨vs0, hvs0⟩ := W.tyL h0 hp
  refine wps_of (ps_expr (pe_bm PySem.F.plainAttrs_list PySem.F.slot_list_append PySem.F.type_list_append mt_append (pe_var hN hv hd hcd) pa_wp hbase hfew hline hs hpl) hsw) ⟨.ref p, hp, .inl ⟨rfl, vs0, .inl (.inl hvs0)⟩, wpa_one hs (he F G σ H W _ fun v G1 H1 s1 W1 r1 => ?_)⟩
  obtain ⟨p', vs, h1, h2, h3⟩ := W1.owned h
  rw [hp] at h1; cases h1
  exact ⟨p, vs, v, rfl, rfl, h2, by rw [pair_len h3]; exact hz.lt, q σ G1 _ s1 (W1.mutate h hp (pair_app h3 (.cons r1 .nil)))⟩
/-- n.extend(a new list) -/
theorem ds_ext (i : Nat) {pin : Bool} (hz : Sz (xs.length + ys.length)) (he : DO X e Γ (.lst t ys) Γ1) (h : Γ1[i]? = some (.ow pin (.lst t xs)) := by rfl) (h0 : (Γ[i]?.map Slot.isOw) = some true := by rfl) (hN : X.N[i]? = some n := by rfl) (hv : Vis X.env.scope n := by first | exact Or.inl rfl | exact Or.inr (Or.inl rfl) | exact Or.inr (Or.inr rfl))
    (hd : (n == ("__debug__" : Str)) = false := by decide) (hcd : (n == ("__classdict__" : Str)) = false := by decide) (hbase : attributeBase (.Name n npos) "extend" X.env (eval (.Name n npos) X.env) = eval (.Name n npos) X.env := by rfl)
    (hfew : ((backTo cpos (starEach [e] X.env)).all (fun x => !x.1) && (backToKw cpos (keywordEach [] X.env)).all (fun x => x.1.isSome) && decide (([e] : List Expr).length + ([] : List Keyword).length + (if ([] : List Keyword).isEmpty then 0 else 1) < 30)) = true := by rfl)
    (hline : (apos.endLine == cpos.line) = true := by rfl) (hs : starEach [e] X.env = (false, eval e X.env) :: starEach [] X.env := by rfl) (hpl : (backTo cpos (starEach [] X.env)).any (·.1) = false := by rfl) (hsw : swapsWith (.Call (.Attribute (.Name n npos) "extend" apos) [e] [] cpos) none pos.line X.env = pure false := by rfl) :
    DS X R (.Expr (.Call (.Attribute (.Name n npos) "extend" apos) [e] [] cpos) pos) Γ (.nx (Γ1.set i (.ow pin (.lst t (xs ++ ys))))) := fun F G σ H W D q => by
  obtain ⟨p, hp⟩ := W.owName h0
  obtain ⟨vs0, hvs0⟩ := W.tyL h0 hp
  refine wps_of (ps_expr (pe_bm PySem.F.plainAttrs_list PySem.F.slot_list_extend PySem.F.type_list_extend mt_extend (pe_var hN hv hd hcd) pa_wp hbase hfew hline hs hpl) hsw) ⟨.ref p, hp, .inl ⟨rfl, vs0, .inl (.inl hvs0)⟩, wpa_one hs (he F G σ H W _ fun p2 ho G1 H1 s1 W1 hT ok => ?_)⟩
  obtain ⟨ws, rfl, r⟩ := ok
  have held := W1.held.1
  have W2 := W1.drop hT
  obtain ⟨p', vs, h1, h2, h3⟩ := W2.owned h
  rw [hp] at h1; cases h1
  exact ⟨p, p2, vs, ws, rfl, rfl, h2, held, by rw [pair_len h3, pair_len r]; exact hz.le, q σ G1 _ s1 (W2.mutate h hp (pair_app h3 r))⟩
/-- n.pop() -/
theorem de_pop (i : Nat) (d : t.den) {pin : Bool} (hne : 0 < xs.length) (h : Γ[i]? = some (.ow pin (.lst t xs)) := by rfl) (hN : X.N[i]? = some n := by rfl) (hv : Vis X.env.scope n := by first | exact Or.inl rfl | exact Or.inr (Or.inl rfl) | exact Or.inr (Or.inr rfl))
    (hd : (n == ("__debug__" : Str)) = false := by decide) (hcd : (n == ("__classdict__" : Str)) = false := by decide) (hbase : attributeBase (.Name n npos) "pop" X.env (eval (.Name n npos) X.env) = eval (.Name n npos) X.env := by rfl) (hline : (apos.endLine == cpos.line) = true := by rfl) :
    DE X (.Call (.Attribute (.Name n npos) "pop" apos) [] [] cpos) Γ t (get d xs (-1)) (Γ.set i (.ow pin (.lst t xs.dropLast))) := fun F G σ H W Q q => by
  obtain ⟨p, vs, h1, h2, h3⟩ := W.owned h
  have el := pair_len h3
  have e1 : ix xs.length (-1) = xs.length - 1 := by unfold ix; rw [if_neg (by omega)]; omega
  obtain ⟨v, e2, e3⟩ := pair_get h3 (i := xs.length - 1) (List.getElem?_eq_getElem (by omega))
  refine wpe_of (pe_bm0 PySem.F.plainAttrs_list PySem.F.slot_list_pop PySem.F.type_list_pop mt_pop (pe_var hN hv hd hcd) hbase hline) ⟨.ref p, h1, .inl ⟨rfl, vs, .inl (.inl h2)⟩, p, vs, v, rfl, rfl, h2, by rw [el]; exact e2, ?_⟩
  refine q v G _ (Same.refl G) (W.mutate h h1 ?_) ?_
  · rw [List.dropLast_eq_take, List.dropLast_eq_take, el]; exact pair_take _ h3
  · unfold get
    rw [e1, List.getElem?_eq_getElem (by omega)]
    exact e3
/-- n.pop(k) -/
theorem de_popAt (i : Nat) (d : t.den) {pin : Bool} {k : Int} (hk : IxOk xs.length k) (hz : Sz xs.length) (he : DE X e Γ .int k Γ1) (h : Γ1[i]? = some (.ow pin (.lst t xs)) := by rfl) (h0 : (Γ[i]?.map Slot.isOw) = some true := by rfl) (hN : X.N[i]? = some n := by rfl) (hv : Vis X.env.scope n := by first | exact Or.inl rfl | exact Or.inr (Or.inl rfl) | exact Or.inr (Or.inr rfl))
    (hd : (n == ("__debug__" : Str)) = false := by decide) (hcd : (n == ("__classdict__" : Str)) = false := by decide) (hbase : attributeBase (.Name n npos) "pop" X.env (eval (.Name n npos) X.env) = eval (.Name n npos) X.env := by rfl)
    (hfew : ((backTo cpos (starEach [e] X.env)).all (fun x => !x.1) && (backToKw cpos (keywordEach [] X.env)).all (fun x => x.1.isSome) && decide (([e] : List Expr).length + ([] : List Keyword).length + (if ([] : List Keyword).isEmpty then 0 else 1) < 30)) = true := by rfl)
    (hline : (apos.endLine == cpos.line) = true := by rfl) (hs : starEach [e] X.env = (false, eval e X.env) :: starEach [] X.env := by rfl) (hpl : (backTo cpos (starEach [] X.env)).any (·.1) = false := by rfl) :
    DE X (.Call (.Attribute (.Name n npos) "pop" apos) [e] [] cpos) Γ t (get d xs k) (Γ1.set i (.ow pin (.lst t (xs.eraseIdx (ix xs.length k))))) := fun F G σ H W Q q => by
  obtain ⟨p, hp⟩ := W.owName h0
  obtain ⟨vs0, hvs0⟩ := W.tyL h0 hp
  refine wpe_of (pe_bm PySem.F.plainAttrs_list PySem.F.slot_list_pop PySem.F.type_list_pop mt_popAt (pe_var hN hv hd hcd) pa_wp hbase hfew hline hs hpl) ⟨.ref p, hp, .inl ⟨rfl, vs0, .inl (.inl hvs0)⟩, wpa_one hs (he F G σ H W _ fun v G1 H1 s1 W1 r1 => ?_)⟩
  obtain ⟨p', vs, h1, h2, h3⟩ := W1.owned h
  rw [hp] at h1; cases h1
  have el := pair_len h3
  obtain ⟨e1, e2⟩ := ixN_ok hk
  obtain ⟨w, e3, e4⟩ := pair_get h3 (List.getElem?_eq_getElem e2)
  have hz' : xs.length ≤ 100000 := hz
  obtain ⟨k1, k2⟩ := hk
  refine ⟨p, vs, k, ix xs.length k, w, rfl, by rw [show v = _ from r1], h2, by omega, by omega, by rw [el]; exact (ixN_seq e1).1, e3, ?_⟩
  refine q w G1 _ s1 (W1.mutate h hp (pair_erase _ h3)) ?_
  unfold get
  rw [List.getElem?_eq_getElem e2]
  exact e4
/-- n[k] = e -/
theorem ds_setix (i : Nat) {pin : Bool} {k : Int} {x : t.den} {tpos : Pos} {ke : Expr} (hk : IxOk xs.length k) (he : DE X e Γ t x Γ1) (hke : DE X ke Γ1 .int k Γ2) (h : Γ2[i]? = some (.ow pin (.lst t xs)) := by rfl) (h0 : (Γ1[i]?.map Slot.isOw) = some true := by rfl) (hN : X.N[i]? = some n := by rfl) (hv : Vis X.env.scope n := by first | exact Or.inl rfl | exact Or.inr (Or.inl rfl) | exact Or.inr (Or.inr rfl))
    (hd : (n == ("__debug__" : Str)) = false := by decide) (hcd : (n == ("__classdict__" : Str)) = false := by decide)
    (ha : ∀ v, assign (.Subscript (.Name n npos) ke tpos) X.env v = (do
      let ov ← holding [v] (eval (.Name n npos) X.env)
      let iv ← holding [v, ov] (eval ke X.env)
      standAt tpos
      holding [v, ov, iv] (setItem ov iv v)
      release [v, ov, iv] []) := by intro _; rfl)
    (hs : swapsWithSole [.Subscript (.Name n npos) ke tpos] e pos.line X.env = pure false := by rfl) (hw : swappedStores [.Subscript (.Name n npos) ke tpos] e X.env = pure none := by rfl) (h1 : (assignEach [.Subscript (.Name n npos) ke tpos] X.env).map (·.2) = [assign (.Subscript (.Name n npos) ke tpos) X.env] := by rfl) :
    DS X R (.Assign [.Subscript (.Name n npos) ke tpos] e pos) Γ (.nx (Γ2.set i (.ow pin (.lst t (xs.set (ix xs.length k) x))))) := fun F G σ H W D q =>
  wps_of (ps_asg pe_wp (pg_sub (pe_var hN hv hd hcd) pe_wp set_list ha) hs hw h1) (he F G σ H W _ fun v G1 H1 s1 W1 r1 => by
    obtain ⟨p, hp⟩ := W1.owName h0
    refine ⟨.ref p, hp, hke F G1 σ H1 W1 _ fun w G2 H2 s2 W2 r2 => ?_⟩
    obtain ⟨p', vs, e1, e2, e3⟩ := W2.owned h
    rw [hp] at e1; cases e1
    obtain ⟨e4, e5⟩ := ixN_ok hk
    exact ⟨p, vs, k, ix xs.length k, rfl, r2, e2, by rw [pair_len e3]; exact e4, q σ G2 _ (s1.trans s2) (W2.mutate h hp (pair_set (rep_mono s2 t v x r1) _ e3))⟩)

/-! ### any, all, sum, join -/
theorem repL_bool {K : PySem.W.Frag} {G : Hp} : ∀ {vs : List V} {xs : List Bool}, RepL K .bool G vs xs → vs = xs.map V.bl
  | _, _, .nil => rfl
  | _, _, .cons r t => by rw [repL_bool t, List.map_cons, show _ = V.bl _ from r]
theorem repL_int {K : PySem.W.Frag} {G : Hp} : ∀ {vs : List V} {xs : List Int}, RepL K .int G vs xs → vs = xs.map V.int
  | _, _, .nil => rfl
  | _, _, .cons r t => by rw [repL_int t, List.map_cons, show _ = V.int _ from r]
theorem repL_str {K : PySem.W.Frag} {G : Hp} : ∀ {vs : List V} {xs : List (List Nat)}, RepL K .str G vs xs → vs = (xs.map fun x => (⟨x.toArray⟩ : Str)).map V.str
  | _, _, .nil => rfl
  | _, _, .cons r t => by rw [repL_str t, List.map_cons, show _ = vS _ from r]; rfl
theorem de_all {xs : List Bool} (hm : X.mg "all" = none) (h : DL X e Γ .bool xs Γ1) (hc : X.calm = true := by rfl) (hg : Gl X "all" := by rfl) (hs : starEach [e] X.env = (false, eval e X.env) :: starEach [] X.env := by rfl) (hpl : (backTo pos (starEach [] X.env)).any (·.1) = false := by rfl) : DE X (.Call (.Name "all" p) [e] [] pos) Γ .bool (xs.all id) Γ1 := fun F G σ H W Q q =>
  wpe_of (pe_callB (cr_all hc) hg hm (by decide +kernel) pa_wp (by decide) (by decide) hs hpl) (wpa_one hs (h F G σ H W _ fun a vs G1 H1 s1 W1 h1 h2 => ⟨a, xs, rfl, by rw [← repL_bool h2]; exact h1, q _ G1 H1 s1 W1 rfl⟩))
theorem de_any {xs : List Bool} (hm : X.mg "any" = none) (h : DL X e Γ .bool xs Γ1) (hc : X.calm = true := by rfl) (hg : Gl X "any" := by rfl) (hs : starEach [e] X.env = (false, eval e X.env) :: starEach [] X.env := by rfl) (hpl : (backTo pos (starEach [] X.env)).any (·.1) = false := by rfl) : DE X (.Call (.Name "any" p) [e] [] pos) Γ .bool (xs.any id) Γ1 := fun F G σ H W Q q =>
  wpe_of (pe_callB (cr_any hc) hg hm (by decide +kernel) pa_wp (by decide) (by decide) hs hpl) (wpa_one hs (h F G σ H W _ fun a vs G1 H1 s1 W1 h1 h2 => ⟨a, xs, rfl, by rw [← repL_bool h2]; exact h1, q _ G1 H1 s1 W1 rfl⟩))
theorem de_sum {xs : List Int} (hm : X.mg "sum" = none) (h : DL X e Γ .int xs Γ1) (hc : X.calm = true := by rfl) (hg : Gl X "sum" := by rfl) (hs : starEach [e] X.env = (false, eval e X.env) :: starEach [] X.env := by rfl) (hpl : (backTo pos (starEach [] X.env)).any (·.1) = false := by rfl) : DE X (.Call (.Name "sum" p) [e] [] pos) Γ .int xs.sum Γ1 := fun F G σ H W Q q =>
  wpe_of (pe_callB (cr_sum hc) hg hm (by decide +kernel) pa_wp (by decide) (by decide) hs hpl) (wpa_one hs (h F G σ H W _ fun a vs G1 H1 s1 W1 h1 h2 => ⟨a, xs, rfl, by rw [← repL_int h2]; exact h1, q _ G1 H1 s1 W1 rfl⟩))
/-- sep.join(xs) -/
def joinS (s : List Nat) (xs : List (List Nat)) : List Nat := joinL s xs
def SzJ (s : List Nat) (xs : List (List Nat)) : Prop := (xs.map List.length).sum + xs.length * s.length ≤ 100000
theorem de_join {s : List Nat} {xs : List (List Nat)} (hz : SzJ s xs) (ha : DE X a Γ .str s Γ1) (hb : DQ X b Γ1 .str xs Γ2) (hs : starEach [b] X.env = [(false, eval b X.env)] := by rfl) (hbase : attributeBase a "join" X.env (eval a X.env) = eval a X.env := by rfl) (hline : (apos.endLine == pos.line) = true := by rfl) :
    DE X (.Call (.Attribute a "join" apos) [b] [] pos) Γ .str (joinS s xs) Γ2 := fun F G σ H W Q q =>
  wpe_of (pe_join pe_wp pe_wp hs hbase hline) (ha F G σ H W _ fun v G1 H1 s1 W1 r1 => ⟨⟨_, r1⟩, hb F G1 σ H1 W1 _ fun q2 vs G2 H2 s2 W2 h1 h2 => by
    refine ⟨⟨s.toArray⟩, q2, xs.map fun x => (⟨x.toArray⟩ : Str), r1, rfl, by rw [← repL_str h2]; exact h1, ?_, q _ G2 H2 (s1.trans s2) W2 ?_⟩
    · have e1 : ((xs.map fun x => (⟨x.toArray⟩ : Str)).map (·.length)) = xs.map List.length := by
        rw [List.map_map]
        apply List.map_congr_left
        intro x _
        exact len_mk x
      rw [e1, List.length_map, len_mk]
      have hz' : (xs.map List.length).sum + xs.length * s.length ≤ 100000 := hz
      omega
    · show V.str _ = vS _
      unfold vS joinS
      congr 1
      apply ext_tl
      rw [join_eq, tl_join, List.map_map]
      have e2 : (xs.map (tl ∘ fun x => (⟨x.toArray⟩ : Str))) = xs := by
        have : (tl ∘ fun x => (⟨x.toArray⟩ : Str)) = (id : List Nat → List Nat) := rfl
        rw [this, List.map_id]
      rw [e2]⟩)

/-! ### finding in texts -/
/-- the first place at which y stands in x -/
def sfind (x y : List Nat) : Option Nat := (List.range (x.length + 1)).find? fun i => (x.drop i).take y.length == y
def findZ (x y : List Nat) : Int := match sfind x y with
  | some i => (i : Int)
  | none => -1
theorem at_list {x y : List Nat} {i : Nat} (hi : i ≤ x.length) : StrLaws.At (⟨x.toArray⟩ : Str) ⟨y.toArray⟩ x.length i ↔ ((x.drop i).take y.length == y) = true := by
  unfold StrLaws.At
  rw [StrLaws.subAt_eq, len_mk]
  show (i + y.length ≤ x.length ∧ ((x.drop i).take y.length == y) = true) ↔ _
  constructor
  · exact fun h => h.2
  · intro h
    refine ⟨?_, h⟩
    have e := congrArg List.length (eq_of_beq h)
    rw [List.length_take, List.length_drop] at e
    omega
theorem find_range_least {p : Nat → Bool} {n k : Nat} (h : k < n) (hk : p k = true) (hb : ∀ j, j < k → p j = false) : (List.range n).find? p = some k := by
  induction n with
  | zero => omega
  | succ n ih =>
    rw [List.range_succ, List.find?_append]
    by_cases e : k < n
    · rw [ih e]; rfl
    · have e : k = n := by omega
      subst e
      have : (List.range k).find? p = none := List.find?_eq_none.mpr fun j hj => by rw [hb j (List.mem_range.mp hj)]; exact Bool.false_ne_true
      rw [this]
      simp [hk]
theorem occ_sfind (x y : List Nat) : (Builtin.Str.occurrences (⟨x.toArray⟩ : Str) ⟨y.toArray⟩ 0 (⟨x.toArray⟩ : Str).length 1).head? = sfind x y := by
  have hl := len_mk x
  rcases StrLaws.occ_head (⟨x.toArray⟩ : Str) ⟨y.toArray⟩ 1 (Nat.le_refl 1) with ⟨h0, hn⟩ | ⟨i, r, h0, hi, hn⟩
  · rw [h0]
    refine (List.find?_eq_none.mpr fun i hi q => ?_).symm
    rw [hl] at hn
    exact hn i ((at_list (by have := List.mem_range.mp hi; omega)).mpr q)
  · rw [h0]
    rw [hl] at hi hn
    have hi' : i ≤ x.length := by have := hi.1; omega
    refine (find_range_least (by omega) ((at_list hi').mp hi) fun j hj => ?_).symm
    cases q : ((x.drop j).take y.length == y) with
    | false => rfl
    | true => exact absurd ((at_list (by omega)).mpr q) (hn j hj)
theorem de_find {x y : List Nat} (ha : DE X a Γ .str x Γ1) (hb : DE X b Γ1 .str y Γ2) (hs : starEach [b] X.env = [(false, eval b X.env)] := by rfl) (hbase : attributeBase a "find" X.env (eval a X.env) = eval a X.env := by rfl) (hline : (apos.endLine == pos.line) = true := by rfl) :
    DE X (.Call (.Attribute a "find" apos) [b] [] pos) Γ .int (findZ x y) Γ2 := fun F G σ H W Q q =>
  wpe_of (pe_m1 PySem.F.slot_str_find PySem.F.type_str_find mt_find pe_wp pe_wp hs hbase hline) (ha F G σ H W _ fun v G1 H1 s1 W1 r1 => ⟨⟨_, r1⟩, hb F G1 σ H1 W1 _ fun w G2 H2 s2 W2 r2 => ⟨⟨x.toArray⟩, ⟨y.toArray⟩, r1, by rw [show w = _ from r2]; rfl, q _ G2 H2 (s1.trans s2) W2 (by
    show V.int _ = V.int _
    congr 1
    have e := occ_sfind x y
    unfold Txt.find findZ
    rw [← e]
    cases Builtin.Str.occurrences (⟨x.toArray⟩ : Str) ⟨y.toArray⟩ 0 (⟨x.toArray⟩ : Str).length 1 <;> rfl)⟩⟩)
/-- x.index(y), y stands in x -/
theorem de_sindex {x y : List Nat} (hf : (sfind x y).isSome = true) (ha : DE X a Γ .str x Γ1) (hb : DE X b Γ1 .str y Γ2) (hs : starEach [b] X.env = [(false, eval b X.env)] := by rfl) (hbase : attributeBase a "index" X.env (eval a X.env) = eval a X.env := by rfl) (hline : (apos.endLine == pos.line) = true := by rfl) :
    DE X (.Call (.Attribute a "index" apos) [b] [] pos) Γ .int (findZ x y) Γ2 := fun F G σ H W Q q =>
  wpe_of (pe_m1 PySem.F.slot_str_index PySem.F.type_str_index mt_sindex pe_wp pe_wp hs hbase hline) (ha F G σ H W _ fun v G1 H1 s1 W1 r1 => ⟨⟨_, r1⟩, hb F G1 σ H1 W1 _ fun w G2 H2 s2 W2 r2 => by
    have e := occ_sfind x y
    cases e2 : Builtin.Str.occurrences (⟨x.toArray⟩ : Str) ⟨y.toArray⟩ 0 (⟨x.toArray⟩ : Str).length 1 with
    | nil => rw [e2] at e; rw [← e] at hf; cases hf
    | cons i r =>
      rw [e2] at e
      refine ⟨⟨x.toArray⟩, ⟨y.toArray⟩, i, r, r1, by rw [show w = _ from r2]; rfl, e2, q _ G2 H2 (s1.trans s2) W2 ?_⟩
      show V.int _ = V.int _
      unfold findZ
      rw [← e]
      rfl⟩)
/-- y in x, texts -/
theorem dc_inS {x y : List Nat} (ha : DE X a Γ .str y Γ1) (hb : DE X b Γ1 .str x Γ2) : DC X .In a b Γ (sfind x y).isSome Γ2 := fun F G σ H W Q q =>
  wpc_of (pc_op op_in_str pe_wp pe_wp) (ev_op (τ := .bool) (c := (sfind x y).isSome) ha hb (fun G H v w Q _ r1 r2 q => ⟨⟨y.toArray⟩, ⟨x.toArray⟩, r1, r2, q _ (by
    show V.bl _ = V.bl _
    congr 1
    rw [← occ_sfind x y]
    cases Builtin.Str.occurrences (⟨x.toArray⟩ : Str) ⟨y.toArray⟩ 0 (⟨x.toArray⟩ : Str).length 1 <;> rfl)⟩) F G σ H W Q q)
theorem dc_ninS {x y : List Nat} (ha : DE X a Γ .str y Γ1) (hb : DE X b Γ1 .str x Γ2) : DC X .NotIn a b Γ (!(sfind x y).isSome) Γ2 := fun F G σ H W Q q =>
  wpc_of (pc_op op_notin_str pe_wp pe_wp) (ev_op (τ := .bool) (c := !(sfind x y).isSome) ha hb (fun G H v w Q _ r1 r2 q => ⟨⟨y.toArray⟩, ⟨x.toArray⟩, r1, r2, q _ (by
    show V.bl _ = V.bl _
    congr 1
    rw [← occ_sfind x y]
    cases Builtin.Str.occurrences (⟨x.toArray⟩ : Str) ⟨y.toArray⟩ 0 (⟨x.toArray⟩ : Str).length 1 <;> rfl)⟩) F G σ H W Q q)

/-! ### isinstance -/
def Ty.pyName : Ty → Option String
  | .int => some "int" | .bool => some "bool" | .str => some "str" | .non => some "NoneType"
  | .opt _ => none
  | .scr => none
  | .lst _ => some "list"
  | _ => some "tuple"
theorem tyx_list {K : PySem.W.Frag} {H : Hp} {q : Addr} {vs : List V} (h : Rd H q (.lst vs)) : TyX K H (.ref q) (.type "list") := by
  rcases h with h | ⟨o, h⟩
  · exact .base (.lst h)
  · exact .base (.frz h)
theorem tyx_tup {K : PySem.W.Frag} {H : Hp} {q : Addr} {vs : List V} (h : SqT K H q vs) : TyX K H (.ref q) (.type "tuple") := by
  rcases h with (h | ⟨o, h⟩) | ⟨o, its, m, h1, h2, h3, h4, h5⟩
  · exact .base (.tup h)
  · exact .fTuple h
  · exact .kTuple h1 h2
theorem tyx_of {K : PySem.W.Frag} {G H : Hp} (sg : Same G H) : ∀ (t : Ty) (s : String) (v : V) (x : t.den), t.pyName = some s → Rep K t G v x → TyX K H v (.type s)
  | .int, _, _, _, e, r => by cases e; rw [show _ = _ from r]; exact .base (.int _)
  | .bool, _, _, _, e, r => by cases e; rw [show _ = _ from r]; exact .base (.bl _)
  | .str, _, _, _, e, r => by cases e; rw [show _ = _ from r]; exact .base (.str _)
  | .non, _, _, _, e, r => by cases e; rw [show _ = _ from r]; exact .base .non
  | .opt _, _, _, _, e, _ => by cases e
  | .scr, _, _, _, e, _ => by cases e
  | .lst t, _, _, _, e, ⟨a, vs, h1, h2, _⟩ => by cases e; subst h1; exact tyx_list (rd_mono sg h2)
  | .tup t, _, _, _, e, ⟨a, vs, h1, h2, _⟩ => by cases e; subst h1; exact tyx_tup (sqt_mono sg h2)
  | .p2 .., _, _, _, e, ⟨p, _, _, h1, h2, _⟩ => by cases e; subst h1; exact tyx_tup (sqt_mono sg h2)
  | .p3 .., _, _, _, e, ⟨p, _, _, _, h1, h2, _⟩ => by cases e; subst h1; exact tyx_tup (sqt_mono sg h2)
  | .p4 .., _, _, _, e, ⟨p, _, _, _, _, h1, h2, _⟩ => by cases e; subst h1; exact tyx_tup (sqt_mono sg h2)
  | .p5 .., _, _, _, e, ⟨p, _, _, _, _, _, h1, h2, _⟩ => by cases e; subst h1; exact tyx_tup (sqt_mono sg h2)
theorem de_isi {x : t.den} {s T : String} {r : Bool} {v : Str} {p2 : Pos} (hm : X.mg "isinstance" = none) (hmT : X.mg v = none) (h : DE X e Γ t x Γ1) (hb : bootBuiltins v = some (.type T) := by decide +kernel) (hk : kitB s T = some r := by decide +kernel) (hn : t.pyName = some s := by rfl) (hg : Gl X "isinstance" := by rfl) (hgT : Gl X v := by rfl)
    (hnn : v ≠ "__name__" := by decide) (hdb : (v == ("__debug__" : Str)) = false := by decide)
    (hs : starEach [e, .Name v p2] X.env = (false, eval e X.env) :: starEach [.Name v p2] X.env := by rfl) (hs2 : starEach [.Name v p2] X.env = (false, eval (.Name v p2) X.env) :: starEach [] X.env := by rfl) (hpl : (backTo pos (starEach [.Name v p2] X.env)).any (·.1) = false := by rfl) :
    DE X (.Call (.Name "isinstance" p) [e, .Name v p2] [] pos) Γ .bool r Γ1 := fun F G σ H W Q q =>
  wpe_of (pe_callB call_isi hg hm (by decide +kernel) (pa_cons pe_wp (pa_cons (pe_bltn (v := .ty T) hgT hmT hb rfl hnn hdb) pa_nil hs2) hs) (by decide) (by decide) hs hpl) (h F G σ H W _ fun w G1 H1 s1 W1 r1 =>
    ⟨w, .ty T, .type s, .type T, r, rfl, .ty T, tyx_of W1.gh t s w x hn r1, kit_ty hk, q _ G1 H1 s1 W1 rfl⟩)

/-! ### several targets -/
theorem ds_unpack {tg : Expr} {g : TG} {x : t.den} {B : t.den → List Slot → List Slot} {tgs : List Nat} (he : DE X e Γ t x Γ1) (hg : EvG X.K g t B tgs) (hp : PG X tg g) (hs : swapsWithSole [tg] e pos.line X.env = pure false := by rfl) (hw : swappedStores [tg] e X.env = pure none := by rfl)
    (h1 : (assignEach [tg] X.env).map (·.2) = [assign tg X.env] := by rfl) : DS X R (.Assign [tg] e pos) Γ (.nx (B x Γ1)) := fun F G σ H W D q =>
  wps_of (ps_asg pe_wp hp hs hw h1) (he F G σ H W _ fun v G1 H1 s1 W1 r1 => hg F G1 σ H1 Γ1 v x W1 r1 _ fun σ' _ W2 => q σ' G1 H1 s1 W2)
/-- x, y = e1, e2 -/
theorem ds_par (i j : Nat) {A B : Ty} {x1 : A.den} {x2 : B.den} {n1 n2 : Str} {px py pt : Pos} {kt k2 pt2} {e1 e2 : Expr} (hN : X.N.Nodup) (h1 : DE X e1 Γ A x1 Γ1) (h2 : DE X e2 Γ1 B x2 Γ2) (hi : X.N[i]? = some n1 := by rfl) (hj : X.N[j]? = some n2 := by rfl) (hij : i ≠ j := by decide)
    (hx : X.env.scope.names.lookup n1 = some .local := by rfl) (hy : X.env.scope.names.lookup n2 = some .local := by rfl) (hw : swappedStores [.Tuple [.Name n1 px, .Name n2 py] kt pt] (.Tuple [e1, e2] k2 pt2) X.env = pure (some [n1, n2]) := by rfl) (hc : X.calm = true := by rfl)
    (hs : swapsWithSole [.Tuple [.Name n1 px, .Name n2 py] kt pt] (.Tuple [e1, e2] k2 pt2) pos.line X.env = pure false := by rfl) (hs1 : starEach [e1, e2] X.env = (false, eval e1 X.env) :: starEach [e2] X.env := by rfl) (hs2 : starEach [e2] X.env = (false, eval e2 X.env) :: starEach [] X.env := by rfl) :
    DS X R (.Assign [.Tuple [.Name n1 px, .Name n2 py] kt pt] (.Tuple [e1, e2] k2 pt2) pos) Γ (.nx ((Γ2.set i (.fr A x1)).set j (.fr B x2))) := fun F G σ H W D q =>
  wps_of (L2.ps_par hc hN hi hj hij hx hy (pa_cons pe_wp (pa_cons pe_wp pa_nil hs2) hs1) hw hs) (h1 F G σ H W _ fun v G1 H1 s1 W1 r1 => h2 F G1 σ H1 W1 _ fun w G2 H2 s2 W2 r2 =>
    ⟨v, w, rfl, q _ G2 H2 (s1.trans s2) ((W2.setFr (rep_mono s2 A v x1 r1)).setFr r2)⟩)
end
end Dn

set_option Elab.async false
set_option linter.all false
set_option maxRecDepth 100000
set_option maxHeartbeats 1000000
/-! Dn, part 11: the script; conditions that ride along; callees; ends. -/
namespace Dn
open PySem PySem.Spec PyProof.Rows L2 TL

section
variable {X : Cx} {a b e : Expr} {pos : Pos} {Γ Γ1 Γ2 : List Slot} {xs : List Int}
theorem repL_ints {K : PySem.W.Frag} {G : Hp} : ∀ (xs : List Int), RepL K .int G (xs.map V.int) xs
  | [] => .nil
  | _ :: xs => .cons rfl (repL_ints xs)
theorem dl_scr (h : DE X e Γ .scr xs Γ1) : DL X e Γ .int xs Γ1 := fun F G σ H W Q q => h F G σ H W Q fun v G' H' s W' r => by
  obtain ⟨a, rfl, h1⟩ := r
  exact q a _ G' H' s W' (sql_mono W'.gh h1) (repL_ints xs)
theorem de_ixR {i : Int} (hi : IxOk xs.length i) (ha : DE X a Γ .scr xs Γ1) (hb : DE X b Γ1 .int i Γ2) (hs : PlainIx b := by exact fun _ _ => rfl) : DE X (.Subscript a b pos) Γ .int (get 0 xs i) Γ2 := fun F G σ H W Q q =>
  wpe_of (pe_ix ix_list pe_wp pe_wp hs) (ev_op (t := .scr) (τ := .int) (c := get 0 xs i) ha hb (fun G H v w Q sg r1 r2 q => by
    obtain ⟨p, rfl, h1⟩ := r1
    obtain ⟨v, e1, e2⟩ := at_ok (t := .int) (K := X.K) (G := G) 0 (repL_ints xs) hi
    exact ⟨p, _, i, v, rfl, r2, sql_mono sg h1, e1, q v e2⟩) F G σ H W Q q)
end

def Lp.done {S ρ : Type} (r : Lp S ρ) (k : S → Prop) : Prop := match r with
  | .go s => k s
  | .stop s => k s
  | .ret _ => True
section
variable {X : Cx} {ρ : Type} {R : RI ρ} {st : Stmt} {rest : List Stmt} {Γ Γ1 Γ2 : List Slot} {o o' o1 o2 o1' o2' : Out ρ}
theorem cont_letP {S : Type} {Γs : S → List Slot} {s0 : S} {of : S → Out ρ} (P : S → Prop) (hP : P s0) (h : ∀ s, P s → DSs X R rest (Γs s) (of s)) : Cont X R (.nx (Γs s0)) rest (of s0) := cont_nx (h s0 hP)
theorem cont_letQ {S : Type} {Γ : List Slot} {of : S → Out ρ} (Γs : S → List Slot) (s0 : S) (P : S → Prop) (hP : P s0) (e : Γ = Γs s0) (h : ∀ s, P s → DSs X R rest (Γs s) (of s)) (e2 : o' = of s0) : Cont X R (.nx Γ) rest o' := by
  subst e; subst e2; exact cont_nx (h s0 hP)
theorem cont_lpP {S : Type} {r : Lp S ρ} {k k' : S → Out ρ} (P : S → Prop) (hP : r.done P) (h : ∀ s, P s → Cont X R (k s) rest (k' s)) : Cont X R (.lp r k) rest (.lp r k') := fun F D G q => by
  cases r with
  | go s => exact h s hP F D G q
  | stop s => exact h s hP F D G q
  | ret x => exact q
end
theorem rets_rt {ρ : Type} {x : ρ} : (Out.rt x).Rets := trivial
theorem rets_br {ρ : Type} {b : Bool} {o1 o2 : Out ρ} (h1 : o1.Rets) (h2 : o2.Rets) : (Out.br b o1 o2).Rets := ⟨h1, h2⟩
theorem rets_lp {ρ S : Type} {r : Lp S ρ} {k : S → Out ρ} (h : ∀ s, (k s).Rets) : (Out.lp r k).Rets := h

theorem val_lp {ρ S : Type} {d : ρ} {r : Lp S ρ} {k : S → Out ρ} : (Out.lp r k).val d = r.fin fun s => (k s).val d := by cases r <;> rfl
/-! ### a callee, whole -/
structure Cl (P : Program) (w : World) (K : PySem.W.Frag) (mg : Str → Option Value) (base : Heap) (k : Nat) (n : Str) (ps : List Str) (sp : Sp) : Prop where
  ex : ∃ (f : Addr) (fd : FuncData), FnOk P w K mg base CX0 k f fd ps sp ∧ mg n = some (.ref f) ∧ PySem.W.keepIn K (.ref f) = true ∧ Binds K fd ps []
section
variable {X : Cx} {ps : List Str} {sp : Sp} {k : Nat} {n : Str} {p pos : Pos} {e : Expr} {es : List Expr} {Γ Γ1 : List Slot} {as : List Arg} {t : Ty} {x : t.den} {o y y' : Own}
theorem cl_call (C : Cl X.prog X.w X.K X.mg X.base k n ps sp) (hr : Room k X.A)
    (hsp : ∀ vs H Q, Pm0 X.K as (.fr t x) vs H Q E0 → sp vs H Q E0) (ha : DA X (e :: es) Γ as Γ1) (hf : as.all Arg.isFr = true := by rfl)
    (hg : Gl X n := by rfl) (hdb : (n == ("__debug__" : Str)) = false := by decide) (he : starEach (e :: es) X.env = (false, eval e X.env) :: starEach es X.env := by rfl) (hpl : (backTo pos (starEach es X.env)).any (·.1) = false := by rfl) :
    DE X (.Call (.Name n p) (e :: es) [] pos) Γ t x Γ1 := by
  obtain ⟨f, fd, F, hm, hk, hb⟩ := C.ex
  exact de_call F hr hm hk hb hsp ha hf hg hdb he hpl
theorem clo_call (C : Cl X.prog X.w X.K X.mg X.base k n ps sp) (hr : Room k X.A)
    (hsp : ∀ vs H Q, Pm0 X.K as (.ow o) vs H Q E0 → sp vs H Q E0) (ha : DA X (e :: es) Γ as Γ1) (hf : as.all Arg.isFr = true := by rfl)
    (hg : Gl X n := by rfl) (hdb : (n == ("__debug__" : Str)) = false := by decide) (he : starEach (e :: es) X.env = (false, eval e X.env) :: starEach es X.env := by rfl) (hpl : (backTo pos (starEach es X.env)).any (·.1) = false := by rfl) :
    DO X (.Call (.Name n p) (e :: es) [] pos) Γ o Γ1 := by
  obtain ⟨f, fd, F, hm, hk, hb⟩ := C.ex
  exact do_call F hr hm hk hb hsp ha hf hg hdb he hpl
theorem cl_callB (i : Nat) {pin : Bool} (C : Cl X.prog X.w X.K X.mg X.base k n ps sp) (hr : Room k X.A)
    (hsp : ∀ vs H Q, Pm1 X.K y y' as (.fr t x) vs H Q E0 → sp vs H Q E0) (ha : DA X (e :: es) Γ (.bx i :: as) Γ1) (hi : Γ1[i]? = some (.ow pin y) := by rfl) (hf : as.all Arg.isFr = true := by rfl)
    (hg : Gl X n := by rfl) (hdb : (n == ("__debug__" : Str)) = false := by decide) (he : starEach (e :: es) X.env = (false, eval e X.env) :: starEach es X.env := by rfl) (hpl : (backTo pos (starEach es X.env)).any (·.1) = false := by rfl) :
    DE X (.Call (.Name n p) (e :: es) [] pos) Γ t x (Γ1.set i (.ow pin y')) := by
  obtain ⟨f, fd, F, hm, hk, hb⟩ := C.ex
  exact de_callB i F hr hm hk hb hsp ha hi hf hg hdb he hpl
theorem clo_callB (i : Nat) {pin : Bool} (C : Cl X.prog X.w X.K X.mg X.base k n ps sp) (hr : Room k X.A)
    (hsp : ∀ vs H Q, Pm1 X.K y y' as (.ow o) vs H Q E0 → sp vs H Q E0) (ha : DA X (e :: es) Γ (.bx i :: as) Γ1) (hi : Γ1[i]? = some (.ow pin y) := by rfl) (hf : as.all Arg.isFr = true := by rfl)
    (hg : Gl X n := by rfl) (hdb : (n == ("__debug__" : Str)) = false := by decide) (he : starEach (e :: es) X.env = (false, eval e X.env) :: starEach es X.env := by rfl) (hpl : (backTo pos (starEach es X.env)).any (·.1) = false := by rfl) :
    DO X (.Call (.Name n p) (e :: es) [] pos) Γ o (Γ1.set i (.ow pin y')) := by
  obtain ⟨f, fd, F, hm, hk, hb⟩ := C.ex
  exact do_callB i F hr hm hk hb hsp ha hi hf hg hdb he hpl
theorem cl_callT (C : Cl X.prog X.w X.K X.mg X.base k n ps sp) (hr : Room k X.A)
    (hsp : ∀ vs H Q, Pm1 X.K y y' as (.fr t x) vs H Q E0 → sp vs H Q E0) (ha : DA X (e :: es) Γ (.tmp y :: as) Γ1) (hf : as.all Arg.isFr = true := by rfl)
    (hg : Gl X n := by rfl) (hdb : (n == ("__debug__" : Str)) = false := by decide) (he : starEach (e :: es) X.env = (false, eval e X.env) :: starEach es X.env := by rfl) (hpl : (backTo pos (starEach es X.env)).any (·.1) = false := by rfl) :
    DE X (.Call (.Name n p) (e :: es) [] pos) Γ t x Γ1 := by
  obtain ⟨f, fd, F, hm, hk, hb⟩ := C.ex
  exact de_callT F hr hm hk hb hsp ha hf hg hdb he hpl
end
theorem pm0_len {K : PySem.W.Frag} {as : List Arg} {r : Ret} {vs : List V} {H : Hp} {Q : VK} {E : XK} (h : Pm0 K as r vs H Q E) : vs.length = as.length := by
  obtain ⟨G, _, p, _⟩ := h
  exact pair_len p
theorem pm1_len {K : PySem.W.Frag} {y y' : Own} {as : List Arg} {r : Ret} {vs : List V} {H : Hp} {Q : VK} {E : XK} (h : Pm1 K y y' as r vs H Q E) : vs.length = as.length + 1 := by
  obtain ⟨G, b, ho, vs', rfl, _, _, _, _, p, _⟩ := h
  have := pair_len p
  simp only [List.length_cons]
  omega
/-! ### the law's entry -/
theorem entry {K : PySem.W.Frag} {H : Hp} {a : Addr} {ns : List Int} (hS : SqL K H a (ns.map V.int)) : Pm0 K [.fr .scr ns] (.fr .bool true) [.ref a] H (fun v _ => v = .bl true) fun _ _ _ => False := by
  refine ⟨fun c => if c = a then H a else none, fun c o e => ?_, .cons ⟨a, rfl, ?_⟩ .nil, fun v G' H' _ _ _ _ r => r⟩
  · by_cases h : c = a
    · simp only [h, if_true] at e ⊢
      exact e
    · simp only [if_neg h] at e
      cases e
  · rcases hS with (h | ⟨o, h⟩) | h
    · exact .inl (.inl (by simpa using h))
    · exact .inl (.inr ⟨o, by simpa using h⟩)
    · exact .inr h
instance {j : Int} : Decidable (DivOk j) := inferInstanceAs (Decidable (_ ∧ _))
instance {i j : Int} : Decidable (MulOk i j) := inferInstanceAs (Decidable (_ < _))
instance {i : Nat} : Decidable (Sz i) := inferInstanceAs (Decidable (_ ≤ _))
instance {i : Int} : Decidable (RngOk i) := inferInstanceAs (Decidable (_ ∧ _))
instance {n : Nat} {i : Int} : Decidable (IxOk n i) := inferInstanceAs (Decidable (_ ∧ _))
section
variable {X : Cx} {a b e : Expr} {pos : Pos} {Γ Γ1 Γ2 Γ3 : List Slot} {S : Type}
/-! effects behind a condition -/
theorem dw_andG (Γs : S → List Slot) {c : Bool} {r : Bool × S} {s1 : S} {rest : List Expr} (h : DT X a Γ c (Γs s1)) (h2 : c = true → DW X (.BoolOp .And (b :: rest) pos) (Γs s1) r.1 (Γs r.2)) : DW X (.BoolOp .And (a :: b :: rest) pos) Γ (bif c then r else (false, s1)).1 (Γs (bif c then r else (false, s1)).2) := by
  cases c with
  | true => exact dw_and (c := true) (d := r.1) h h2 (fun z => by cases z)
  | false => exact dw_and (c := false) (d := false) (Γ2 := Γs s1) h (fun z => by cases z) (fun _ => rfl)
theorem dw_orG (Γs : S → List Slot) {c : Bool} {r : Bool × S} {s1 : S} {rest : List Expr} (h : DT X a Γ c (Γs s1)) (h2 : c = false → DW X (.BoolOp .Or (b :: rest) pos) (Γs s1) r.1 (Γs r.2)) : DW X (.BoolOp .Or (a :: b :: rest) pos) Γ (bif c then (true, s1) else r).1 (Γs (bif c then (true, s1) else r).2) := by
  cases c with
  | true => exact dw_or (c := true) (d := true) (Γ2 := Γs s1) h (fun z => by cases z) (fun _ => rfl)
  | false => exact dw_or (c := false) (d := r.1) h h2 (fun z => by cases z)
theorem de_ifG (Γs : S → List Slot) {t : Ty} {cx : Expr} {c : Bool} {r1 r2 : t.den × S} (hc : DT X cx Γ c Γ1) (h1 : c = true → DE X a Γ1 t r1.1 (Γs r1.2)) (h2 : c = false → DE X b Γ1 t r2.1 (Γs r2.2)) : DE X (.IfExp cx a b pos) Γ t (bif c then r1 else r2).1 (Γs (bif c then r1 else r2).2) := by
  cases c with
  | true => exact de_if (f := fun _ => r1.1) hc h1 (fun z => by cases z)
  | false => exact de_if (f := fun _ => r2.1) hc (fun z => by cases z) h2
variable {ρ : Type} {R : RI ρ}
theorem ds_frz (i : Nat) {st : Stmt} {t : Ty} {xs : List t.den} (h : DS X R st Γ (.nx Γ1)) (hi : Γ1[i]? = some (.ow false (.lst t xs)) := by rfl) : DS X R st Γ (.nx (Γ1.set i (.fr (.lst t) xs))) :=
  ds_join (S := Unit) (fun _ => Γ1.set i (.fr (.lst t) xs)) (s := ()) h (.nx (ent_frz i hi))
theorem ds_joinE {o o' : Out ρ} {st : Stmt} (Γs : S → List Slot) (s : S) (e : o' = .nx (Γs s)) (h : DS X R st Γ o) (k : Nx X.K Γs o s) : DS X R st Γ o' := by subst e; exact ds_join Γs h k
theorem dss_join (Γs : S → List Slot) {st : List Stmt} {o : Out ρ} {s : S} (h : DSs X R st Γ o) (k : Nx X.K Γs o s) : DSs X R st Γ (.nx (Γs s)) := fun F G σ H W D q => h F G σ H W D (nx_ok k q)
end
section
variable {X : Cx} {S α : Type} {tg iter elt : Expr} {ifs : List Expr} {scope : Scope} {g : TG} {pos : Pos} {Γ Γ1 : List Slot} {ys : List α} {B : α → List Slot → List Slot} {tgs : List Nat} {t : Ty}
/-! comprehensions, read first and compared after -/
theorem lcq_map (own : List (Str × Nat)) {P : α → Prop} {h : α → t.den} (hi : DI X tg iter g Γ ys B tgs Γ1) (hg : ∀ (sh : Shared) (H : Hp) (C : Addr) (cl : List (Str × Addr)) (fp : List Addr), PG (X.blk sh H scope (compEnvC scope cl C X.env) fp) tg g) (hz : Sz ys.length) (hP : ∀ y ∈ ys, P y)
    (hb : ∀ y, P y → ∃ x Γe, (∀ (sh : Shared) (H : Hp) (C : Addr) (cl : List (Str × Addr)) (fp : List Addr), DE (X.blk sh H scope (compEnvC scope cl C X.env) fp) elt (B y Γ1) t x Γe) ∧ Wk Γe Γ1 ∧ x = h y)
    (ok : BlkOk X.N X.env.scope scope own) (hw : wipeS Γ1 (own.map (·.2)) = Γ1 := by rfl) (htg : ∀ i ∈ tgs, i ∈ own.map (·.2) := by decide) : LcOk X elt tg iter [] scope Γ (.lst t (ys.map h)) Γ1 :=
  lc_map own hi hg hz hP (fun y p => by obtain ⟨x, Γe, a, b, c⟩ := hb y p; subst c; exact ⟨Γe, b, a⟩) ok hw htg
theorem lcq_filt (own : List (Str × Nat)) {P : α → Prop} {c : α → Bool} {h : α → t.den} (hi : DI X tg iter g Γ ys B tgs Γ1) (hg : ∀ (sh : Shared) (H : Hp) (C : Addr) (cl : List (Str × Addr)) (fp : List Addr), PG (X.blk sh H scope (compEnvC scope cl C X.env) fp) tg g) (hz : Sz ys.length) (hP : ∀ y ∈ ys, P y)
    (hb : ∀ y, P y → ∃ b x Γt Γe, (∀ (sh : Shared) (H : Hp) (C : Addr) (cl : List (Str × Addr)) (fp : List Addr), DTs (X.blk sh H scope (compEnvC scope cl C X.env) fp) ifs (B y Γ1) b Γt) ∧ (b = true → (∀ (sh : Shared) (H : Hp) (C : Addr) (cl : List (Str × Addr)) (fp : List Addr), DE (X.blk sh H scope (compEnvC scope cl C X.env) fp) elt Γt t x Γe)) ∧ Wk Γt Γ1 ∧ Wk Γe Γ1 ∧ b = c y ∧ x = h y)
    (ok : BlkOk X.N X.env.scope scope own) (hw : wipeS Γ1 (own.map (·.2)) = Γ1 := by rfl) (htg : ∀ i ∈ tgs, i ∈ own.map (·.2) := by decide) : LcOk X elt tg iter ifs scope Γ (.lst t ((ys.filter c).map h)) Γ1 :=
  lc_filt own hi hg hz hP (fun y p => by
    obtain ⟨b, x, Γt, Γe, h1, h2, w1, w2, e1, e2⟩ := hb y p
    subst e1; subst e2
    exact ⟨Γt, Γe, w1, w2, fun sh H C cl fp => ⟨h1 sh H C cl fp, fun q => h2 q sh H C cl fp⟩⟩) ok hw htg
theorem lcq_mapS (own : List (Str × Nat)) (Γs : S → List Slot) (s0 : S) {P : S → α → Prop} {f : S → α → t.den × S} (hi : DI X tg iter g Γ ys B tgs Γ1) (h0 : Γ1 = Γs s0) (hg : ∀ (sh : Shared) (H : Hp) (C : Addr) (cl : List (Str × Addr)) (fp : List Addr), PG (X.blk sh H scope (compEnvC scope cl C X.env) fp) tg g) (hz : Sz ys.length) (hP : AllS P f s0 ys)
    (hb : ∀ s y, P s y → ∃ x s' Γe, (∀ (sh : Shared) (H : Hp) (C : Addr) (cl : List (Str × Addr)) (fp : List Addr), DE (X.blk sh H scope (compEnvC scope cl C X.env) fp) elt (B y (Γs s)) t x Γe) ∧ Wk Γe (Γs s') ∧ (x, s') = f s y)
    (ok : BlkOk X.N X.env.scope scope own) (hw : ∀ s, wipeS (Γs s) (own.map (·.2)) = Γs s := by intro _; rfl) (htg : ∀ i ∈ tgs, i ∈ own.map (·.2) := by decide) : LcOk X elt tg iter [] scope Γ (.lst t (mapS f s0 ys).1) (Γs (mapS f s0 ys).2) := by
  subst h0
  refine lc_mapS own Γs hi hg hz hP (fun s y p => ?_) ok hw htg
  obtain ⟨x, s', Γe, a, b, c⟩ := hb s y p
  rw [← c]
  exact ⟨Γe, b, a⟩
end
theorem de_eq {X : Cx} {e : Expr} {Γ Γ1 Γ' : List Slot} {t : Ty} {x x' : t.den} (h : DE X e Γ t x Γ1) (e1 : x = x') (e2 : Γ1 = Γ') : DE X e Γ t x' Γ' := by subst e1; subst e2; exact h
end Dn

set_option Elab.async false
set_option linter.all false
set_option maxRecDepth 100000
set_option maxHeartbeats 1000000
/-! Dn, part 12: chains of comparisons; == beside owned lists; extend by a tuple. -/
namespace Dn
open PySem PySem.Spec PyProof.Rows L2 TL

section
variable {X : Cx} {a b c e : Expr} {pos : Pos} {Γ Γ1 Γ2 : List Slot}
def IC (X : Cx) (op : CmpOp) (f : Int → Int → Bool) : Prop := ∃ r : R2, OpR X (compareOp op) r ∧ ∀ (i j : Int) (H : Hp) (Q : VK), Q (.bl (f i j)) H → r (.int i) (.int j) H Q
theorem ic_lt : IC X .Lt fun i j => decide (i < j) := ⟨_, op_lt, fun i j H Q q => ⟨i, j, rfl, rfl, q⟩⟩
theorem ic_le : IC X .LtE fun i j => decide (i ≤ j) := ⟨_, op_le, fun i j H Q q => ⟨i, j, rfl, rfl, q⟩⟩
theorem ic_gt : IC X .Gt fun i j => decide (j < i) := ⟨_, op_gt, fun i j H Q q => ⟨i, j, rfl, rfl, q⟩⟩
theorem ic_ge : IC X .GtE fun i j => decide (j ≤ i) := ⟨_, op_ge, fun i j H Q q => ⟨i, j, rfl, rfl, q⟩⟩
theorem ev_chain {r r' : R2} {f f' : Int → Int → Bool} {i j k : Int} (h1 : ∀ (i j : Int) (H : Hp) (Q : VK), Q (.bl (f i j)) H → r (.int i) (.int j) H Q) (h2 : ∀ (i j : Int) (H : Hp) (Q : VK), Q (.bl (f' i j)) H → r' (.int i) (.int j) H Q)
    (ha : DE X a Γ .int i Γ1) (hb : DE X b Γ1 .int j Γ2) (hc : f i j = true → DE X c Γ2 .int k Γ2) : Ev X.K (tChain r r' (WPE X a) (WPE X b) (WPE X c)) Γ .bool (f i j && f' j k) Γ2 := fun F G σ H W Q q =>
  ha F G σ H W _ fun v G1 H1 s1 W1 e1 => hb F G1 σ H1 W1 _ fun u G2 H2 s2 W2 e2 => by
    cases e1; cases e2
    refine h1 _ _ _ _ ⟨f i j, rfl, ?_⟩
    by_cases hf : f i j = true
    · rw [if_pos hf]
      refine hc hf F G2 σ H2 W2 _ fun w G3 H3 s3 W3 e3 => ?_
      cases e3
      refine h2 _ _ _ _ (q _ G3 H3 ((s1.trans s2).trans s3) W3 ?_)
      rw [hf]; rfl
    · rw [if_neg hf]
      refine q _ G2 H2 (s1.trans s2) W2 ?_
      have hf : f i j = false := by simpa using hf
      rw [hf]; rfl
theorem dt_chain {op op' : CmpOp} {f f' : Int → Int → Bool} {i j k : Int} (o1 : IC X op f) (o2 : IC X op' f') (ha : DE X a Γ .int i Γ1) (hb : DE X b Γ1 .int j Γ2) (hc : f i j = true → DE X c Γ2 .int k Γ2) (hm : lastMarks [op, op'] [b, c] = false := by with_unfolding_all rfl) :
    DT X (.Compare a [op, op'] [b, c] pos) Γ (f i j && f' j k) Γ2 := fun F G σ H W Q q => by
  obtain ⟨r, p, h1⟩ := o1
  obtain ⟨r', p', h2⟩ := o2
  exact wpt_of (pt_chain p p' pe_wp pe_wp pe_wp hm) (ev_chain h1 h2 ha hb hc F G σ H W _ fun v G' H' s W' e => ⟨_, e, q G' H' s W'⟩)
theorem de_chain {op op' : CmpOp} {f f' : Int → Int → Bool} {i j k : Int} (o1 : IC X op f) (o2 : IC X op' f') (ha : DE X a Γ .int i Γ1) (hb : DE X b Γ1 .int j Γ2) (hc : f i j = true → DE X c Γ2 .int k Γ2) (hm : lastMarks [op, op'] [b, c] = false := by with_unfolding_all rfl) :
    DE X (.Compare a [op, op'] [b, c] pos) Γ .bool (f i j && f' j k) Γ2 := fun F G σ H W Q q => by
  obtain ⟨r, p, h1⟩ := o1
  obtain ⟨r', p', h2⟩ := o2
  exact wpe_of (pe_chain p p' pe_wp pe_wp pe_wp hm) (ev_chain h1 h2 ha hb hc F G σ H W Q q)
variable {t : Ty} {xs ys : List t.den}
theorem dpL_list {K : PySem.W.Frag} {G H : Hp} (sg : Same G H) {q : Addr} {vs : List V} (h : SqL K H q vs) (r : RepL K t G vs xs) : Dp K H (.ref q) (toPy (.lst t) xs) := .lst h (dpAll_of (rep_dp sg t) r)
/-! == of an owned name with a list -/
section
variable {n : Str} {pin : Bool}
theorem dc_eqV (i : Nat) {k : Nat} {p : Pos} (hr : Room k X.A) (hl : Lay (.lst t) xs) (hl2 : Lay (.lst t) ys) [DecidableEq (Ty.lst t).den] (hb : DL X b Γ t ys Γ2) (h : Γ2[i]? = some (.ow pin (.lst t xs)) := by rfl) (h0 : (Γ[i]?.map Slot.isOw) = some true := by rfl) (hN : X.N[i]? = some n := by rfl) (hv : Vis X.env.scope n := by first | exact Or.inl rfl | exact Or.inr (Or.inl rfl) | exact Or.inr (Or.inr rfl))
    (hd : (n == ("__debug__" : Str)) = false := by decide) (hcd : (n == ("__classdict__" : Str)) = false := by decide) (he : (Ty.lst t).canEq = true := by rfl) (hdp : (Ty.lst t).dep ≤ 60 := by decide) : DC X .Eq (.Name n p) b Γ (decide ((xs : (Ty.lst t).den) = ys)) Γ2 := fun F G σ H W Q q => by
  obtain ⟨a, ha⟩ := W.owName h0
  refine wpc_of (pc_op (op_eqD hr.units) (pe_var hN hv hd hcd) pe_wp) ⟨.ref a, ha, hb F G σ H W _ fun a2 vs G1 H1 s1 W1 h1 h2 => ?_⟩
  obtain ⟨p', ws, e1, e2, e3⟩ := W1.owned h
  rw [ha] at e1; cases e1
  exact ⟨toPy (.lst t) xs, toPy (.lst t) ys, dpL_list W1.gh (SqL.of e2) e3, dpL_list W1.gh h1 h2, shaped_of hl hdp, shaped_of hl2 hdp, q _ G1 H1 s1 W1 (by rw [eqv_dec he]; rfl)⟩
theorem dc_neV (i : Nat) {k : Nat} {p : Pos} (hr : Room k X.A) (hl : Lay (.lst t) xs) (hl2 : Lay (.lst t) ys) [DecidableEq (Ty.lst t).den] (hb : DL X b Γ t ys Γ2) (h : Γ2[i]? = some (.ow pin (.lst t xs)) := by rfl) (h0 : (Γ[i]?.map Slot.isOw) = some true := by rfl) (hN : X.N[i]? = some n := by rfl) (hv : Vis X.env.scope n := by first | exact Or.inl rfl | exact Or.inr (Or.inl rfl) | exact Or.inr (Or.inr rfl))
    (hd : (n == ("__debug__" : Str)) = false := by decide) (hcd : (n == ("__classdict__" : Str)) = false := by decide) (he : (Ty.lst t).canEq = true := by rfl) (hdp : (Ty.lst t).dep ≤ 60 := by decide) : DC X .NotEq (.Name n p) b Γ (!decide ((xs : (Ty.lst t).den) = ys)) Γ2 := fun F G σ H W Q q => by
  obtain ⟨a, ha⟩ := W.owName h0
  refine wpc_of (pc_op (op_neD hr.units) (pe_var hN hv hd hcd) pe_wp) ⟨.ref a, ha, hb F G σ H W _ fun a2 vs G1 H1 s1 W1 h1 h2 => ?_⟩
  obtain ⟨p', ws, e1, e2, e3⟩ := W1.owned h
  rw [ha] at e1; cases e1
  exact ⟨toPy (.lst t) xs, toPy (.lst t) ys, dpL_list W1.gh (SqL.of e2) e3, dpL_list W1.gh h1 h2, shaped_of hl hdp, shaped_of hl2 hdp, q _ G1 H1 s1 W1 (by rw [eqv_dec he]; rfl)⟩
end
end

theorem list_extend_list_tuple_g (l : Addr) (items : Array Value) (n : Nat) (b : Addr) (items2 : Array Value) (n2 : Nat) (dx : Option Addr) (sx : Array (Option Value)) (hs0 : ¬(!items.isEmpty && Builtin.List.listTooLong (items.size + items2.size)) = true) (hs1 : items.size ≤ sizeLine) (hs2 : items.size + items2.size ≤ sizeLine + 1) :
    Meets (Builtin.«list.extend» ⟨[.ref l, .ref b], []⟩) (fun _ R s => s.heap.get? l = some { cls := .type "list", dict := none, data := .seq items n, slots := #[] } ∧ s.heap.get? b = some { cls := .type "tuple", dict := dx, data := .seq items2 n2, slots := sx } ∧ R (.ok (.ret Value.none)) { s with heap := s.heap.update l (Obj.mapSeq fun x => x ++ items2), toks := s.toks }) :=
  .of_wp fun prog w A R s h => by
    obtain ⟨hp, g, d, tk, os⟩ := s
    obtain ⟨hl, hb, k⟩ := h
    have f5 := PySem.AutoSeq1.sub_list_tuple
    have f4 := PySem.AutoSeq1.sub_tuple_list
    have f3 := PySem.AutoSeq1.sub_list_list
    have f2 := PySem.AutoSeq1.sub_tuple_tuple
    have f1 := PySem.AutoSeq1.idx_int
    have hz2 : (items ++ items2).size ≤ sizeLine + 1 := by
      rw [Array.size_append]
      exact hs2
    wp_walk using (wpAny_updateSeq hl rfl (hz := hs1) (_hz' := hz2)), PySem.AutoSeq1.wpAny_loadPart' hb, PySem.AutoSeq1.wpAny_loadPart' hl
    exact ⟨_, rfl, k⟩
/-- append many: xs.extend(a tuple) -/
def rExtU (K : PySem.W.Frag) : V → List V → Hp → VK → Prop := fun x vs H Q => ∃ l b xs zs, x = .ref l ∧ vs = [.ref b] ∧ H l = some (.lst xs) ∧ SqT K H b zs ∧ xs.length + zs.length ≤ sizeLine ∧ Q .non (upd H l (.lst (xs ++ zs)))
theorem mt_extU {X : Cx} : MtM X "list.extend" (rExtU X.K) := by
  intro pins s σ H x vs v us Q I rx rv h
  obtain ⟨l, b, xs, zs, rfl, rfl, hH, hB, hz, q⟩ := h
  cases rx
  obtain ⟨u, rfl, ru⟩ := rv.one
  cases ru
  obtain ⟨z, its, n, r, hl, e⟩ := I.lstM hH
  obtain ⟨its2, r2, ht, hz2⟩ := I.tuple hB
  obtain ⟨o, e2, hc, n2, hd⟩ := ht
  obtain ⟨oc, dx, od, sx⟩ := o
  cases hc
  cases hd
  have hl2 := r2.length
  have h1 : its.toArray.size + its2.toArray.size ≤ sizeLine := by rw [List.size_toArray, List.size_toArray]; omega
  have h2 : ¬ (!its.toArray.isEmpty && Builtin.List.listTooLong (its.toArray.size + its2.toArray.size)) = true := by
    rw [notLongL h1, Bool.and_false]
    simp
  refine call_meets F.slot_list_extend ⟨_, e, rfl⟩ F.entry_list_extend (F.args_list_extend_2 _ _)
    (list_extend_list_tuple_g l its.toArray n b its2.toArray n2 dx sx h2 (by rw [List.size_toArray]; omega) (by omega)) ⟨e, e2, ?_⟩
  refine ⟨.non, _, I.lset (its' := its ++ its2) hH e (by simp) (r.append r2) ?_, rfl, q⟩
  rw [List.length_append]
  omega
section
variable {X : Cx} {ρ : Type} {R : RI ρ} {a b e : Expr} {es : List Expr} {pos p cpos apos npos : Pos} {Γ Γ1 Γ2 Γ3 : List Slot} {t u : Ty} {xs ys : List t.den} {n : Str}
theorem ds_extU (i : Nat) {pin : Bool} (hz : Sz (xs.length + ys.length)) (he : DU X e Γ t ys Γ1) (h : Γ1[i]? = some (.ow pin (.lst t xs)) := by rfl) (h0 : (Γ[i]?.map Slot.isOw) = some true := by rfl) (hN : X.N[i]? = some n := by rfl) (hv : Vis X.env.scope n := by first | exact Or.inl rfl | exact Or.inr (Or.inl rfl) | exact Or.inr (Or.inr rfl))
    (hd : (n == ("__debug__" : Str)) = false := by decide) (hcd : (n == ("__classdict__" : Str)) = false := by decide) (hbase : attributeBase (.Name n npos) "extend" X.env (eval (.Name n npos) X.env) = eval (.Name n npos) X.env := by rfl)
    (hfew : ((backTo cpos (starEach [e] X.env)).all (fun x => !x.1) && (backToKw cpos (keywordEach [] X.env)).all (fun x => x.1.isSome) && decide (([e] : List Expr).length + ([] : List Keyword).length + (if ([] : List Keyword).isEmpty then 0 else 1) < 30)) = true := by rfl)
    (hline : (apos.endLine == cpos.line) = true := by rfl) (hs : starEach [e] X.env = (false, eval e X.env) :: starEach [] X.env := by rfl) (hpl : (backTo cpos (starEach [] X.env)).any (·.1) = false := by rfl) (hsw : swapsWith (.Call (.Attribute (.Name n npos) "extend" apos) [e] [] cpos) none pos.line X.env = pure false := by rfl) :
    DS X R (.Expr (.Call (.Attribute (.Name n npos) "extend" apos) [e] [] cpos) pos) Γ (.nx (Γ1.set i (.ow pin (.lst t (xs ++ ys))))) := fun F G σ H W D q => by
  obtain ⟨p, hp⟩ := W.owName h0
  obtain ⟨vs0, hvs0⟩ := W.tyL h0 hp
  refine wps_of (ps_expr (pe_bm PySem.F.plainAttrs_list PySem.F.slot_list_extend PySem.F.type_list_extend mt_extU (pe_var hN hv hd hcd) pa_wp hbase hfew hline hs hpl) hsw) ⟨.ref p, hp, .inl ⟨rfl, vs0, .inl (.inl hvs0)⟩, wpa_one hs (he F G σ H W _ fun p2 ws G1 H1 s1 W1 hU r => ?_)⟩
  obtain ⟨p', vs, h1, h2, h3⟩ := W1.owned h
  rw [hp] at h1; cases h1
  exact ⟨p, p2, vs, ws, rfl, rfl, h2, hU, by rw [pair_len h3, pair_len r]; exact hz.le, q σ G1 _ s1 (W1.mutate h hp (pair_app h3 r))⟩
end
theorem dss_ent {X : Cx} {ρ : Type} {R : RI ρ} {ss : List Stmt} {Γ Γ' : List Slot} {o : Out ρ} (k : Ent X.K Γ Γ') (h : DSs X R ss Γ' o) : DSs X R ss Γ o := fun F G σ H W D q => by
  obtain ⟨G', s, W'⟩ := k F G σ H W
  exact h F G' σ H W' D (outOk_mono s q)
/-- x in xs, by ==; the way to tell is always that of DecidableEq -/
def memD {α : Type} [DecidableEq α] (x : α) (xs : List α) : Bool := decide (x ∈ xs)
theorem memD_iff {α : Type} [DecidableEq α] {x : α} {xs : List α} : memD x xs = true ↔ x ∈ xs := decide_eq_true_iff
section
variable {X : Cx} {a b e : Expr} {Γ Γ1 Γ2 : List Slot} {t : Ty} {x : t.den} {xs : List t.den}
theorem dc_inD {k : Nat} (hr : Room k X.A) (hl : Lay t x) (hl2 : ∀ y ∈ xs, Lay t y) [DecidableEq t.den] (ha : DE X a Γ t x Γ1) (hb : DQ X b Γ1 t xs Γ2) (he : t.canEq = true := by rfl) (hd : t.dep ≤ 60 := by decide) : DC X .In a b Γ (memD x xs) Γ2 := dc_in hr hl hl2 ha hb he hd
theorem dc_ninD {k : Nat} (hr : Room k X.A) (hl : Lay t x) (hl2 : ∀ y ∈ xs, Lay t y) [DecidableEq t.den] (ha : DE X a Γ t x Γ1) (hb : DQ X b Γ1 t xs Γ2) (he : t.canEq = true := by rfl) (hd : t.dep ≤ 60 := by decide) : DC X .NotIn a b Γ (!memD x xs) Γ2 := dc_nin hr hl hl2 ha hb he hd
end
end Dn

set_option Elab.async false
set_option linter.all false
set_option maxRecDepth 100000
set_option maxHeartbeats 1000000
/-! Dn, part 13: let-points with their values one by one. -/
namespace Dn
open PySem PySem.Spec PyProof.Rows L2 TL
theorem cont_let1 {X : Cx} {ρ : Type} {R : RI ρ} {rest : List Stmt} {o' : Out ρ} {A1 : Type} {Γ : List Slot} {of : A1 → Out ρ} (Γs : A1 → List Slot) (a1 : A1) (P : A1 → Prop) (hP : P a1) (e : Γ = Γs a1) (h : ∀ b1, P b1 → DSs X R rest (Γs b1) (of b1)) (e2 : o' = of a1) : Cont X R (.nx Γ) rest o' := by
  subst e; subst e2; exact cont_nx (h a1 hP)
theorem cont_let2 {X : Cx} {ρ : Type} {R : RI ρ} {rest : List Stmt} {o' : Out ρ} {A1 A2 : Type} {Γ : List Slot} {of : A1 → A2 → Out ρ} (Γs : A1 → A2 → List Slot) (a1 : A1) (a2 : A2) (P : A1 → A2 → Prop) (hP : P a1 a2) (e : Γ = Γs a1 a2) (h : ∀ b1 b2, P b1 b2 → DSs X R rest (Γs b1 b2) (of b1 b2)) (e2 : o' = of a1 a2) : Cont X R (.nx Γ) rest o' := by
  subst e; subst e2; exact cont_nx (h a1 a2 hP)
theorem cont_let3 {X : Cx} {ρ : Type} {R : RI ρ} {rest : List Stmt} {o' : Out ρ} {A1 A2 A3 : Type} {Γ : List Slot} {of : A1 → A2 → A3 → Out ρ} (Γs : A1 → A2 → A3 → List Slot) (a1 : A1) (a2 : A2) (a3 : A3) (P : A1 → A2 → A3 → Prop) (hP : P a1 a2 a3) (e : Γ = Γs a1 a2 a3) (h : ∀ b1 b2 b3, P b1 b2 b3 → DSs X R rest (Γs b1 b2 b3) (of b1 b2 b3)) (e2 : o' = of a1 a2 a3) : Cont X R (.nx Γ) rest o' := by
  subst e; subst e2; exact cont_nx (h a1 a2 a3 hP)
theorem cont_let4 {X : Cx} {ρ : Type} {R : RI ρ} {rest : List Stmt} {o' : Out ρ} {A1 A2 A3 A4 : Type} {Γ : List Slot} {of : A1 → A2 → A3 → A4 → Out ρ} (Γs : A1 → A2 → A3 → A4 → List Slot) (a1 : A1) (a2 : A2) (a3 : A3) (a4 : A4) (P : A1 → A2 → A3 → A4 → Prop) (hP : P a1 a2 a3 a4) (e : Γ = Γs a1 a2 a3 a4) (h : ∀ b1 b2 b3 b4, P b1 b2 b3 b4 → DSs X R rest (Γs b1 b2 b3 b4) (of b1 b2 b3 b4)) (e2 : o' = of a1 a2 a3 a4) : Cont X R (.nx Γ) rest o' := by
  subst e; subst e2; exact cont_nx (h a1 a2 a3 a4 hP)
theorem cont_let5 {X : Cx} {ρ : Type} {R : RI ρ} {rest : List Stmt} {o' : Out ρ} {A1 A2 A3 A4 A5 : Type} {Γ : List Slot} {of : A1 → A2 → A3 → A4 → A5 → Out ρ} (Γs : A1 → A2 → A3 → A4 → A5 → List Slot) (a1 : A1) (a2 : A2) (a3 : A3) (a4 : A4) (a5 : A5) (P : A1 → A2 → A3 → A4 → A5 → Prop) (hP : P a1 a2 a3 a4 a5) (e : Γ = Γs a1 a2 a3 a4 a5) (h : ∀ b1 b2 b3 b4 b5, P b1 b2 b3 b4 b5 → DSs X R rest (Γs b1 b2 b3 b4 b5) (of b1 b2 b3 b4 b5)) (e2 : o' = of a1 a2 a3 a4 a5) : Cont X R (.nx Γ) rest o' := by
  subst e; subst e2; exact cont_nx (h a1 a2 a3 a4 a5 hP)
theorem cont_let6 {X : Cx} {ρ : Type} {R : RI ρ} {rest : List Stmt} {o' : Out ρ} {A1 A2 A3 A4 A5 A6 : Type} {Γ : List Slot} {of : A1 → A2 → A3 → A4 → A5 → A6 → Out ρ} (Γs : A1 → A2 → A3 → A4 → A5 → A6 → List Slot) (a1 : A1) (a2 : A2) (a3 : A3) (a4 : A4) (a5 : A5) (a6 : A6) (P : A1 → A2 → A3 → A4 → A5 → A6 → Prop) (hP : P a1 a2 a3 a4 a5 a6) (e : Γ = Γs a1 a2 a3 a4 a5 a6) (h : ∀ b1 b2 b3 b4 b5 b6, P b1 b2 b3 b4 b5 b6 → DSs X R rest (Γs b1 b2 b3 b4 b5 b6) (of b1 b2 b3 b4 b5 b6)) (e2 : o' = of a1 a2 a3 a4 a5 a6) : Cont X R (.nx Γ) rest o' := by
  subst e; subst e2; exact cont_nx (h a1 a2 a3 a4 a5 a6 hP)
theorem cont_let7 {X : Cx} {ρ : Type} {R : RI ρ} {rest : List Stmt} {o' : Out ρ} {A1 A2 A3 A4 A5 A6 A7 : Type} {Γ : List Slot} {of : A1 → A2 → A3 → A4 → A5 → A6 → A7 → Out ρ} (Γs : A1 → A2 → A3 → A4 → A5 → A6 → A7 → List Slot) (a1 : A1) (a2 : A2) (a3 : A3) (a4 : A4) (a5 : A5) (a6 : A6) (a7 : A7) (P : A1 → A2 → A3 → A4 → A5 → A6 → A7 → Prop) (hP : P a1 a2 a3 a4 a5 a6 a7) (e : Γ = Γs a1 a2 a3 a4 a5 a6 a7) (h : ∀ b1 b2 b3 b4 b5 b6 b7, P b1 b2 b3 b4 b5 b6 b7 → DSs X R rest (Γs b1 b2 b3 b4 b5 b6 b7) (of b1 b2 b3 b4 b5 b6 b7)) (e2 : o' = of a1 a2 a3 a4 a5 a6 a7) : Cont X R (.nx Γ) rest o' := by
  subst e; subst e2; exact cont_nx (h a1 a2 a3 a4 a5 a6 a7 hP)
theorem cont_let8 {X : Cx} {ρ : Type} {R : RI ρ} {rest : List Stmt} {o' : Out ρ} {A1 A2 A3 A4 A5 A6 A7 A8 : Type} {Γ : List Slot} {of : A1 → A2 → A3 → A4 → A5 → A6 → A7 → A8 → Out ρ} (Γs : A1 → A2 → A3 → A4 → A5 → A6 → A7 → A8 → List Slot) (a1 : A1) (a2 : A2) (a3 : A3) (a4 : A4) (a5 : A5) (a6 : A6) (a7 : A7) (a8 : A8) (P : A1 → A2 → A3 → A4 → A5 → A6 → A7 → A8 → Prop) (hP : P a1 a2 a3 a4 a5 a6 a7 a8) (e : Γ = Γs a1 a2 a3 a4 a5 a6 a7 a8) (h : ∀ b1 b2 b3 b4 b5 b6 b7 b8, P b1 b2 b3 b4 b5 b6 b7 b8 → DSs X R rest (Γs b1 b2 b3 b4 b5 b6 b7 b8) (of b1 b2 b3 b4 b5 b6 b7 b8)) (e2 : o' = of a1 a2 a3 a4 a5 a6 a7 a8) : Cont X R (.nx Γ) rest o' := by
  subst e; subst e2; exact cont_nx (h a1 a2 a3 a4 a5 a6 a7 a8 hP)
end Dn

set_option Elab.async false
set_option linter.all false
set_option maxHeartbeats 1000000
/-! plain lemmas: loops, comprehensions, places -/
namespace Mt
open Dn (Lp Lp.step mapS AllS AllF AllL loopL IxOk ix ixN_ok rng chars MulOk DivOk joinS SzJ Sz RngOk)
theorem mapS_inv {S α β : Type} {P : S → α → Prop} {f : S → α → β × S} (I : Nat → S → Prop) (Qe : β → Prop) : ∀ (ys : List α) (n : Nat) (s : S), I n s → (∀ s y i, y ∈ ys → n ≤ i → i < n + ys.length → I i s → P s y ∧ I (i + 1) (f s y).2 ∧ Qe (f s y).1) →
    AllS P f s ys ∧ I (n + ys.length) (mapS f s ys).2 ∧ (∀ x ∈ (mapS f s ys).1, Qe x) ∧ (mapS f s ys).1.length = ys.length
  | [], n, s, h, _ => ⟨trivial, h, (fun x hx => nomatch hx), rfl⟩
  | y :: ys, n, s, h, k => by
    obtain ⟨k1, k2, k3⟩ := k s y n (List.mem_cons_self ..) (Nat.le_refl _) (by simp) h
    obtain ⟨r1, r2, r3, r4⟩ := mapS_inv I Qe ys (n + 1) (f s y).2 k2 (fun s' y' i hy hi hl hI => k s' y' i (List.mem_cons_of_mem _ hy) (by omega) (by simp only [List.length_cons]; omega) hI)
    refine ⟨⟨k1, r1⟩, ?_, ?_, by simp [mapS, r4]⟩
    · have e : n + (y :: ys).length = n + 1 + ys.length := by simp only [List.length_cons]; omega
      rw [e]; exact r2
    · intro x hx
      simp only [mapS, List.mem_cons] at hx
      rcases hx with rfl | hx
      · exact k3
      · exact r3 x hx
theorem fold_inv {S α : Type} {P : S → α → Prop} {f : S → α → S} (I : Nat → S → Prop) : ∀ (ys : List α) (n : Nat) (s : S), I n s → (∀ s y i, y ∈ ys → n ≤ i → i < n + ys.length → I i s → P s y ∧ I (i + 1) (f s y)) →
    AllF P f s ys ∧ I (n + ys.length) (ys.foldl f s)
  | [], n, s, h, _ => ⟨trivial, h⟩
  | y :: ys, n, s, h, k => by
    obtain ⟨k1, k2⟩ := k s y n (List.mem_cons_self ..) (Nat.le_refl _) (by simp) h
    obtain ⟨r1, r2⟩ := fold_inv I ys (n + 1) (f s y) k2 (fun s' y' i hy hi hl hI => k s' y' i (List.mem_cons_of_mem _ hy) (by omega) (by simp only [List.length_cons]; omega) hI)
    refine ⟨⟨k1, r1⟩, ?_⟩
    have e : n + (y :: ys).length = n + 1 + ys.length := by simp only [List.length_cons]; omega
    rw [e]; exact r2
theorem loop_inv {S α ρ : Type} {P : S → α → Prop} {f : S → α → Lp S ρ} (I : S → Prop) : ∀ (ys : List α) (s : S), I s → (∀ s y, y ∈ ys → I s → P s y ∧ ∃ s', f s y = .go s' ∧ I s') →
    AllL P f s ys ∧ ∃ s', loopL f s ys = .go s' ∧ I s'
  | [], s, h, _ => ⟨trivial, s, rfl, h⟩
  | y :: ys, s, h, k => by
    obtain ⟨k1, s', k2, k3⟩ := k s y (List.mem_cons_self ..) h
    obtain ⟨r1, s2, r2, r3⟩ := loop_inv I ys s' k3 (fun a b c d => k a b (List.mem_cons_of_mem _ c) d)
    refine ⟨⟨k1, ?_⟩, s2, ?_, r3⟩
    · rw [k2]; exact r1
    · show (f s y).step _ = _
      rw [k2]; exact r2
theorem ix_lt {n : Nat} {i : Int} (h : IxOk n i) : ix n i < n := (ixN_ok h).2
theorem ixOk {n : Nat} {i : Int} (h0 : 0 ≤ i) (h1 : i < n) : IxOk n i := ⟨by omega, h1⟩
theorem get_mem {α : Type} {d : α} {xs : List α} {i : Int} (h : IxOk xs.length i) : Dn.get d xs i ∈ xs := by
  have := ix_lt h
  unfold Dn.get
  rw [List.getElem?_eq_getElem this]
  exact List.getElem_mem ..
theorem rng_mem {lo hi y : Int} (h : y ∈ rng lo hi) : lo ≤ y ∧ y < hi := by
  unfold rng at h
  obtain ⟨k, h1, rfl⟩ := List.mem_map.mp h
  rw [List.mem_range] at h1
  omega
theorem log2_lt {n k : Nat} (h : n < 2 ^ k) (hk : 0 < k) : n.log2 < k := by
  by_cases h0 : n = 0
  · subst h0; simpa using hk
  · exact (Nat.log2_lt h0).mpr h
theorem mulOk {i j : Int} (h1 : i.natAbs < 2 ^ 64) (h2 : j.natAbs < 2 ^ 64) : MulOk i j := by
  have a := log2_lt h1 (by omega)
  have b := log2_lt h2 (by omega)
  unfold MulOk; omega
theorem divOk {j : Int} (h1 : 0 < j) (h2 : j.natAbs < 2 ^ 64) : DivOk j := ⟨h1, by have := log2_lt h2 (by omega); omega⟩
theorem chars_mem {x : List Nat} {y : List Nat} (h : y ∈ chars x) : ∃ c ∈ x, y = [c] := by
  obtain ⟨c, h1, rfl⟩ := List.mem_map.mp h
  exact ⟨c, h1, rfl⟩
theorem joinS_nil : ∀ xs : List (List Nat), joinS [] xs = xs.flatten
  | [] => rfl
  | [x] => by simp [joinS, TL.joinL]
  | x :: y :: r => by
    have := joinS_nil (y :: r)
    simp only [joinS] at this
    simp [joinS, TL.joinL, this]
theorem len_flat {xs : List (List Nat)} {m : Nat} (h : ∀ x ∈ xs, x.length ≤ m) : (xs.map List.length).sum ≤ xs.length * m := by
  induction xs with
  | nil => simp
  | cons x xs ih =>
    have h1 := h x (List.mem_cons_self ..)
    have h2 := ih (fun y hy => h y (List.mem_cons_of_mem _ hy))
    simp only [List.map_cons, List.sum_cons, List.length_cons, Nat.succ_mul, Nat.add_mul]
    omega
theorem szJ_nil {xs : List (List Nat)} {m : Nat} (h : ∀ x ∈ xs, x.length ≤ m) (hm : xs.length * m ≤ 100000) : SzJ [] xs := by
  have := len_flat h
  unfold SzJ
  simp only [List.length_nil, Nat.mul_zero]
  omega
theorem cut_len {α : Type} {xs : List α} {lo hi : Option Int} : (Dn.cut xs lo hi).length ≤ xs.length := by
  unfold Dn.cut
  rw [List.length_take, List.length_drop]
  omega
theorem cut_mem {α : Type} {xs : List α} {lo hi : Option Int} {x : α} (h : x ∈ Dn.cut xs lo hi) : x ∈ xs := List.mem_of_mem_drop (List.mem_of_mem_take h)
/-- up to a place and on from it -/
theorem cut_both {α : Type} {xs : List α} {k : Int} (h0 : 0 ≤ k) : (Dn.cut xs none (some k)).length + (Dn.cut xs (some k) none).length ≤ xs.length := by
  unfold Dn.cut HT.sIx
  simp only [List.length_take, List.length_drop]
  repeat' split
  all_goals omega
theorem loop_any {α ρ : Type} {c : α → Bool} {r : ρ} : ∀ ys : List α, loopL (fun (_ : Unit) y => bif c y then Lp.ret r else Lp.go ()) () ys = bif ys.any c then .ret r else .go ()
  | [] => rfl
  | y :: ys => by
    have := loop_any (c := c) (r := r) ys
    show Lp.step (bif c y then Lp.ret r else Lp.go ()) _ = _
    cases h : c y with
    | true => simp [h, Lp.step]
    | false => simp only [List.any_cons, h, Bool.false_or, cond_false]; exact this
theorem all_of {S α ρ : Type} {P : S → α → Prop} {f : S → α → Lp S ρ} : ∀ {ys : List α} {s : S}, (∀ s y, y ∈ ys → P s y) → AllL P f s ys
  | [], _, _ => trivial
  | y :: ys, s, h => ⟨h s y (List.mem_cons_self ..), by
    cases e : f s y with
    | go s' => exact all_of fun a b c => h a b (List.mem_cons_of_mem _ c)
    | stop s' => trivial
    | ret x => trivial⟩
theorem i20 : IxOk 2 0 := ⟨by decide, by decide⟩
theorem i21 : IxOk 2 1 := ⟨by decide, by decide⟩
theorem letters : ∀ c ∈ [97, 98, 99, 100, 101, 102, 103, 104, 105, 106, 107, 108, 109, 110, 111, 112, 113, 114, 115, 116, 117, 118, 119, 120, 121, 122], 97 ≤ c ∧ c ≤ 122 := by decide
end Mt

set_option Elab.async false
set_option linter.all false
set_option maxHeartbeats 1000000
/-! runs: a condition and a value; what is shown of them -/
namespace Mt
open Dn (Lp Lp.step mapS AllS AllF AllL loopL IxOk ix ixN_ok rng chars MulOk DivOk joinS SzJ Sz RngOk Lp.fin Lp.done Lp.onGo)
structure Rn (α : Type) where
  ok : Prop
  val : α
namespace Rn
variable {α β S ρ T : Type}
@[irreducible] def pure (x : α) : Rn α := ⟨True, x⟩
@[irreducible] def chk (c : Prop) (r : Rn α) : Rn α := ⟨c ∧ r.ok, r.val⟩
@[irreducible] def bind (x : Rn α) (f : α → Rn β) : Rn β := ⟨x.ok ∧ (f x.val).ok, (f x.val).val⟩
@[irreducible] def brTF (c : Bool) (A B : Rn α) (K : α → Rn β) : Rn β := ⟨(c = true → A.ok) ∧ (c = false → B.ok) ∧ (K (bif c then A.val else B.val)).ok, (K (bif c then A.val else B.val)).val⟩
@[irreducible] def brT (c : Bool) (A B : Rn α) (K : α → Rn β) : Rn β := ⟨(c = true → A.ok) ∧ (K (bif c then A.val else B.val)).ok, (K (bif c then A.val else B.val)).val⟩
@[irreducible] def brF (c : Bool) (A B : Rn α) (K : α → Rn β) : Rn β := ⟨(c = false → B.ok) ∧ (K (bif c then A.val else B.val)).ok, (K (bif c then A.val else B.val)).val⟩
@[irreducible] def br (c : Bool) (A B : Rn α) (K : α → Rn β) : Rn β := ⟨(K (bif c then A.val else B.val)).ok, (K (bif c then A.val else B.val)).val⟩
@[irreducible] def ifTF (c : Bool) (A B : Rn α) : Rn α := ⟨(c = true → A.ok) ∧ (c = false → B.ok) ∧ True, bif c then A.val else B.val⟩
@[irreducible] def ifT (c : Bool) (A B : Rn α) : Rn α := ⟨(c = true → A.ok) ∧ True, bif c then A.val else B.val⟩
@[irreducible] def ifF (c : Bool) (A B : Rn α) : Rn α := ⟨(c = false → B.ok) ∧ True, bif c then A.val else B.val⟩
@[irreducible] def «if» (c : Bool) (A B : Rn α) : Rn α := ⟨True, bif c then A.val else B.val⟩
@[irreducible] def fold (f : S → α → Rn S) (s0 : S) (ys : List α) (K : S → Rn β) : Rn β := ⟨AllF (fun s y => (f s y).ok) (fun s y => (f s y).val) s0 ys ∧ (K (ys.foldl (fun s y => (f s y).val) s0)).ok, (K (ys.foldl (fun s y => (f s y).val) s0)).val⟩
@[irreducible] def maps (f : S → α → Rn (T × S)) (s0 : S) (ys : List α) (K : List T × S → Rn β) : Rn β := ⟨AllS (fun s y => (f s y).ok) (fun s y => (f s y).val) s0 ys ∧ (K (mapS (fun s y => (f s y).val) s0 ys)).ok, (K (mapS (fun s y => (f s y).val) s0 ys)).val⟩
@[irreducible] def lpF (f : S → α → Rn (Lp S ρ)) (s0 : S) (ys : List α) (K : S → Rn ρ) : Rn ρ := ⟨AllL (fun s y => (f s y).ok) (fun s y => (f s y).val) s0 ys ∧ (loopL (fun s y => (f s y).val) s0 ys).done (fun q => (K q).ok), (loopL (fun s y => (f s y).val) s0 ys).fin fun q => (K q).val⟩
@[irreducible] def lpT (f : S → α → Rn (Lp S ρ)) (s0 : S) (ys : List α) (K : S → Rn (Lp T ρ)) : Rn (Lp T ρ) := ⟨AllL (fun s y => (f s y).ok) (fun s y => (f s y).val) s0 ys ∧ (loopL (fun s y => (f s y).val) s0 ys).done (fun q => (K q).ok), (loopL (fun s y => (f s y).val) s0 ys).then fun q => (K q).val⟩
@[irreducible] def lpFE (f : S → α → Rn (Lp S ρ)) (s0 : S) (ys : List α) (K : S → Rn ρ) : Rn ρ := ⟨AllL (fun s y => (f s y).ok) (fun s y => (f s y).val) s0 ys ∧ True, (loopL (fun s y => (f s y).val) s0 ys).fin fun q => (K q).val⟩
@[irreducible] def lpTE (f : S → α → Rn (Lp S ρ)) (s0 : S) (ys : List α) (K : S → Rn (Lp T ρ)) : Rn (Lp T ρ) := ⟨AllL (fun s y => (f s y).ok) (fun s y => (f s y).val) s0 ys ∧ True, (loopL (fun s y => (f s y).val) s0 ys).then fun q => (K q).val⟩
end Rn
theorem fold_inv' {S α : Type} {P : S → α → Prop} {f : S → α → S} (I : Nat → S → Prop) : ∀ (zs ys : List α) (n : Nat) (s : S), zs.drop n = ys → I n s → (∀ s y i, zs[i]? = some y → I i s → P s y ∧ I (i + 1) (f s y)) →
    AllF P f s ys ∧ I (n + ys.length) (ys.foldl f s)
  | _, [], n, s, _, h, _ => ⟨trivial, h⟩
  | zs, y :: ys, n, s, e, h, k => by
    have hy : zs[n]? = some y := by rw [← List.head?_drop, e]; rfl
    obtain ⟨k1, k2⟩ := k s y n hy h
    obtain ⟨r1, r2⟩ := fold_inv' I zs ys (n + 1) (f s y) (by rw [← List.drop_drop, e]; rfl) k2 k
    refine ⟨⟨k1, r1⟩, ?_⟩
    have e : n + (y :: ys).length = n + 1 + ys.length := by simp only [List.length_cons]; omega
    rw [e]; exact r2
theorem mapS_inv' {S α β : Type} {P : S → α → Prop} {f : S → α → β × S} (I : Nat → S → Prop) (Qe : Nat → β → Prop) : ∀ (zs ys : List α) (n : Nat) (s : S), zs.drop n = ys → I n s → (∀ s y i, zs[i]? = some y → I i s → P s y ∧ I (i + 1) (f s y).2 ∧ Qe i (f s y).1) →
    AllS P f s ys ∧ I (n + ys.length) (mapS f s ys).2 ∧ (∀ j x, (mapS f s ys).1[j]? = some x → Qe (n + j) x) ∧ (mapS f s ys).1.length = ys.length
  | _, [], n, s, _, h, _ => ⟨trivial, h, (fun j x hx => by simp [mapS] at hx), rfl⟩
  | zs, y :: ys, n, s, e, h, k => by
    have hy : zs[n]? = some y := by rw [← List.head?_drop, e]; rfl
    obtain ⟨k1, k2, k3⟩ := k s y n hy h
    obtain ⟨r1, r2, r3, r4⟩ := mapS_inv' I Qe zs ys (n + 1) (f s y).2 (by rw [← List.drop_drop, e]; rfl) k2 k
    refine ⟨⟨k1, r1⟩, ?_, ?_, by simp [mapS, r4]⟩
    · have e : n + (y :: ys).length = n + 1 + ys.length := by simp only [List.length_cons]; omega
      rw [e]; exact r2
    · intro j x hx
      cases j with
      | zero => simp [mapS] at hx; subst hx; exact k3
      | succ j =>
        have := r3 j x (by simpa [mapS] using hx)
        rwa [show n + 1 + j = n + (j + 1) by omega] at this
/-- the run is let by, and its value is so -/
def Sp {α : Type} (r : Rn α) (P : α → Prop) : Prop := r.ok ∧ P r.val
namespace Sp
variable {α β S ρ T : Type} {P : α → Prop} {Pb : β → Prop}
theorem of {r : Rn α} {ok : Prop} {v : α} (e : r = ⟨ok, v⟩) (h : ok ∧ P v) : Sp r P := by subst e; exact h
theorem to {r : Rn α} {ok : Prop} {v : α} (h : Sp r P) (e : r = ⟨ok, v⟩) : ok ∧ P v := by subst e; exact h
theorem imp {r : Rn α} {Q : α → Prop} (h : Sp r Q) (k : ∀ x, Q x → P x) : Sp r P := ⟨h.1, k _ h.2⟩
theorem ret {x : α} (h : P x) : Sp (Rn.pure x) P := by with_unfolding_all exact ⟨trivial, h⟩
theorem chk {c : Prop} {r : Rn α} (hc : c) (h : Sp r P) : Sp (Rn.chk c r) P := by with_unfolding_all exact ⟨⟨hc, h.1⟩, h.2⟩
theorem bind {x : Rn α} {f : α → Rn β} (h : Sp x P) (k : ∀ a, P a → Sp (f a) Pb) : Sp (Rn.bind x f) Pb := by with_unfolding_all exact ⟨⟨h.1, (k _ h.2).1⟩, (k _ h.2).2⟩
section
variable {c : Bool} {A B : Rn α} {K : α → Rn β}
theorem brTF (h1 : c = true → Sp A fun a => Sp (K a) Pb) (h2 : c = false → Sp B fun a => Sp (K a) Pb) : Sp (Rn.brTF c A B K) Pb := by
  cases c with
  | true => with_unfolding_all exact ⟨⟨fun _ => (h1 rfl).1, (fun z => nomatch z), (h1 rfl).2.1⟩, (h1 rfl).2.2⟩
  | false => with_unfolding_all exact ⟨⟨(fun z => nomatch z), fun _ => (h2 rfl).1, (h2 rfl).2.1⟩, (h2 rfl).2.2⟩
theorem brT (h1 : c = true → Sp A fun a => Sp (K a) Pb) (h2 : c = false → Sp B fun a => Sp (K a) Pb) : Sp (Rn.brT c A B K) Pb := by
  cases c with
  | true => with_unfolding_all exact ⟨⟨fun _ => (h1 rfl).1, (h1 rfl).2.1⟩, (h1 rfl).2.2⟩
  | false => with_unfolding_all exact ⟨⟨(fun z => nomatch z), (h2 rfl).2.1⟩, (h2 rfl).2.2⟩
theorem brF (h1 : c = true → Sp A fun a => Sp (K a) Pb) (h2 : c = false → Sp B fun a => Sp (K a) Pb) : Sp (Rn.brF c A B K) Pb := by
  cases c with
  | true => with_unfolding_all exact ⟨⟨(fun z => nomatch z), (h1 rfl).2.1⟩, (h1 rfl).2.2⟩
  | false => with_unfolding_all exact ⟨⟨fun _ => (h2 rfl).1, (h2 rfl).2.1⟩, (h2 rfl).2.2⟩
theorem br (h1 : c = true → Sp A fun a => Sp (K a) Pb) (h2 : c = false → Sp B fun a => Sp (K a) Pb) : Sp (Rn.br c A B K) Pb := by
  cases c with
  | true => with_unfolding_all exact (h1 rfl).2
  | false => with_unfolding_all exact (h2 rfl).2
/-- .. the ways joined by Q -/
theorem brTFq (Q : α → Prop) (h1 : c = true → Sp A Q) (h2 : c = false → Sp B Q) (k : ∀ a, Q a → Sp (K a) Pb) : Sp (Rn.brTF c A B K) Pb := brTF (fun e => (h1 e).imp k) (fun e => (h2 e).imp k)
theorem brTq (Q : α → Prop) (h1 : c = true → Sp A Q) (h2 : c = false → Sp B Q) (k : ∀ a, Q a → Sp (K a) Pb) : Sp (Rn.brT c A B K) Pb := brT (fun e => (h1 e).imp k) (fun e => (h2 e).imp k)
theorem brFq (Q : α → Prop) (h1 : c = true → Sp A Q) (h2 : c = false → Sp B Q) (k : ∀ a, Q a → Sp (K a) Pb) : Sp (Rn.brF c A B K) Pb := brF (fun e => (h1 e).imp k) (fun e => (h2 e).imp k)
theorem brq (Q : α → Prop) (h1 : c = true → Sp A Q) (h2 : c = false → Sp B Q) (k : ∀ a, Q a → Sp (K a) Pb) : Sp (Rn.br c A B K) Pb := br (fun e => (h1 e).imp k) (fun e => (h2 e).imp k)
theorem ifTF (h1 : c = true → Sp A P) (h2 : c = false → Sp B P) : Sp (Rn.ifTF c A B) P := by
  cases c with
  | true => with_unfolding_all exact ⟨⟨fun _ => (h1 rfl).1, (fun z => nomatch z), trivial⟩, (h1 rfl).2⟩
  | false => with_unfolding_all exact ⟨⟨(fun z => nomatch z), fun _ => (h2 rfl).1, trivial⟩, (h2 rfl).2⟩
theorem ifT (h1 : c = true → Sp A P) (h2 : c = false → Sp B P) : Sp (Rn.ifT c A B) P := by
  cases c with
  | true => with_unfolding_all exact ⟨⟨fun _ => (h1 rfl).1, trivial⟩, (h1 rfl).2⟩
  | false => with_unfolding_all exact ⟨⟨(fun z => nomatch z), trivial⟩, (h2 rfl).2⟩
theorem ifF (h1 : c = true → Sp A P) (h2 : c = false → Sp B P) : Sp (Rn.ifF c A B) P := by
  cases c with
  | true => with_unfolding_all exact ⟨⟨(fun z => nomatch z), trivial⟩, (h1 rfl).2⟩
  | false => with_unfolding_all exact ⟨⟨fun _ => (h2 rfl).1, trivial⟩, (h2 rfl).2⟩
theorem if0 (h1 : c = true → Sp A P) (h2 : c = false → Sp B P) : Sp (Rn.if c A B) P := by
  cases c with
  | true => with_unfolding_all exact ⟨trivial, (h1 rfl).2⟩
  | false => with_unfolding_all exact ⟨trivial, (h2 rfl).2⟩
end
theorem fold {f : S → α → Rn S} {s0 : S} {ys : List α} {K : S → Rn β} (I : Nat → S → Prop) (h0 : I 0 s0) (hs : ∀ s y i, y ∈ ys → i < ys.length → ys[i]? = some y → I i s → Sp (f s y) (I (i + 1))) (k : ∀ s, I ys.length s → Sp (K s) Pb) : Sp (Rn.fold f s0 ys K) Pb := by
  obtain ⟨a, b⟩ := fold_inv' (P := fun s y => (f s y).ok) (f := fun s y => (f s y).val) I ys ys 0 s0 rfl h0 fun s y i hy h => hs s y i (List.mem_of_getElem? hy) (List.getElem?_eq_some_iff.mp hy).1 hy h
  rw [Nat.zero_add] at b
  with_unfolding_all exact ⟨⟨a, (k _ b).1⟩, (k _ b).2⟩
/-- .. each item told with its number -/
theorem mapsI {f : S → α → Rn (T × S)} {s0 : S} {ys : List α} {K : List T × S → Rn β} (I : Nat → S → Prop) (Qe : Nat → T → Prop) (h0 : I 0 s0) (hs : ∀ s y i, y ∈ ys → i < ys.length → ys[i]? = some y → I i s → Sp (f s y) fun r => I (i + 1) r.2 ∧ Qe i r.1)
    (k : ∀ l s, I ys.length s → l.length = ys.length → (∀ j x, l[j]? = some x → Qe j x) → Sp (K (l, s)) Pb) : Sp (Rn.maps f s0 ys K) Pb := by
  obtain ⟨a, b, c, d⟩ := mapS_inv' (P := fun s y => (f s y).ok) (f := fun s y => (f s y).val) I Qe ys ys 0 s0 rfl h0 fun s y i hy h => hs s y i (List.mem_of_getElem? hy) (List.getElem?_eq_some_iff.mp hy).1 hy h
  rw [Nat.zero_add] at b
  have z := k _ _ b d fun j x h => by have := c j x h; rwa [Nat.zero_add] at this
  with_unfolding_all exact ⟨⟨a, z.1⟩, z.2⟩
theorem maps {f : S → α → Rn (T × S)} {s0 : S} {ys : List α} {K : List T × S → Rn β} (I : Nat → S → Prop) (Qe : T → Prop) (h0 : I 0 s0) (hs : ∀ s y i, y ∈ ys → i < ys.length → ys[i]? = some y → I i s → Sp (f s y) fun r => I (i + 1) r.2 ∧ Qe r.1)
    (k : ∀ l s, I ys.length s → l.length = ys.length → (∀ x ∈ l, Qe x) → Sp (K (l, s)) Pb) : Sp (Rn.maps f s0 ys K) Pb :=
  mapsI I (fun _ => Qe) h0 hs fun l s h e q => k l s h e fun x hx => by
    obtain ⟨j, hj⟩ := List.getElem?_of_mem hx
    exact q j x hj
/-- a loop that may be left: I goes on, J behind a break, R behind a return -/
def LpQ (I : S → Prop) (J : S → Prop) (R : ρ → Prop) : Lp S ρ → Prop
  | .go s => I s
  | .stop s => J s
  | .ret x => R x
theorem loop {f : S → α → Rn (Lp S ρ)} (I : Nat → S → Prop) (J : S → Prop) (R : ρ → Prop) : ∀ (zs ys : List α) (n : Nat) (s : S), zs.drop n = ys → I n s → (∀ s y i, zs[i]? = some y → I i s → Sp (f s y) (LpQ (I (i + 1)) J R)) →
    AllL (fun s y => (f s y).ok) (fun s y => (f s y).val) s ys ∧ LpQ (I (n + ys.length)) J R (loopL (fun s y => (f s y).val) s ys)
  | _, [], n, s, _, h, _ => ⟨trivial, h⟩
  | zs, y :: ys, n, s, e0, h, k => by
    have hy : zs[n]? = some y := by rw [← List.head?_drop, e0]; rfl
    obtain ⟨k1, k2⟩ := k s y n hy h
    show ((f s y).ok ∧ _) ∧ LpQ _ J R ((f s y).val.step _)
    have e : n + (y :: ys).length = n + 1 + ys.length := by simp only [List.length_cons]; omega
    rw [e]
    cases hv : (f s y).val with
    | go s' =>
      rw [hv] at k2
      obtain ⟨r1, r2⟩ := loop I J R zs ys (n + 1) s' (by rw [← List.drop_drop, e0]; rfl) k2 k
      refine ⟨⟨k1, ?_⟩, r2⟩
      show Lp.onGo (f s y).val _
      rw [hv]; exact r1
    | stop s' => rw [hv] at k2; refine ⟨⟨k1, ?_⟩, k2⟩; show Lp.onGo (f s y).val _; rw [hv]; trivial
    | ret x => rw [hv] at k2; refine ⟨⟨k1, ?_⟩, k2⟩; show Lp.onGo (f s y).val _; rw [hv]; trivial
section
variable {f : S → α → Rn (Lp S ρ)} {s0 : S} {ys : List α} {Pr : ρ → Prop}
theorem lpF {K : S → Rn ρ} (I : Nat → S → Prop) (J : S → Prop) (h0 : I 0 s0) (hs : ∀ s y i, y ∈ ys → i < ys.length → ys[i]? = some y → I i s → Sp (f s y) (LpQ (I (i + 1)) J Pr)) (k : ∀ s, I ys.length s ∨ J s → Sp (K s) Pr) : Sp (Rn.lpF f s0 ys K) Pr := by
  obtain ⟨a, b⟩ := loop I J Pr ys ys 0 s0 rfl h0 fun s y i hy h => hs s y i (List.mem_of_getElem? hy) (List.getElem?_eq_some_iff.mp hy).1 hy h
  rw [Nat.zero_add] at b
  with_unfolding_all show (_ ∧ Lp.done (loopL _ _ _) _) ∧ Pr (Lp.fin (loopL _ _ _) _)
  generalize loopL _ _ _ = r at *
  cases r with
  | go s => with_unfolding_all exact ⟨⟨a, (k s (.inl b)).1⟩, (k s (.inl b)).2⟩
  | stop s => with_unfolding_all exact ⟨⟨a, (k s (.inr b)).1⟩, (k s (.inr b)).2⟩
  | ret x => with_unfolding_all exact ⟨⟨a, trivial⟩, b⟩
theorem lpFE {K : S → Rn ρ} (I : Nat → S → Prop) (J : S → Prop) (h0 : I 0 s0) (hs : ∀ s y i, y ∈ ys → i < ys.length → ys[i]? = some y → I i s → Sp (f s y) (LpQ (I (i + 1)) J Pr)) (k : ∀ s, I ys.length s ∨ J s → Sp (K s) Pr) : Sp (Rn.lpFE f s0 ys K) Pr := by
  have := lpF I J h0 hs k
  with_unfolding_all exact ⟨⟨this.1.1, trivial⟩, this.2⟩
theorem lpT {K : S → Rn (Lp T ρ)} {PT : Lp T ρ → Prop} (I : Nat → S → Prop) (J : S → Prop) (R : ρ → Prop) (h0 : I 0 s0) (hs : ∀ s y i, y ∈ ys → i < ys.length → ys[i]? = some y → I i s → Sp (f s y) (LpQ (I (i + 1)) J R)) (k : ∀ s, I ys.length s ∨ J s → Sp (K s) PT) (kr : ∀ x, R x → PT (.ret x)) : Sp (Rn.lpT f s0 ys K) PT := by
  obtain ⟨a, b⟩ := loop I J R ys ys 0 s0 rfl h0 fun s y i hy h => hs s y i (List.mem_of_getElem? hy) (List.getElem?_eq_some_iff.mp hy).1 hy h
  rw [Nat.zero_add] at b
  with_unfolding_all show (_ ∧ Lp.done (loopL _ _ _) _) ∧ PT (Lp.then (loopL _ _ _) _)
  generalize loopL _ _ _ = r at *
  cases r with
  | go s => with_unfolding_all exact ⟨⟨a, (k s (.inl b)).1⟩, (k s (.inl b)).2⟩
  | stop s => with_unfolding_all exact ⟨⟨a, (k s (.inr b)).1⟩, (k s (.inr b)).2⟩
  | ret x => with_unfolding_all exact ⟨⟨a, trivial⟩, kr _ b⟩
theorem lpTE {K : S → Rn (Lp T ρ)} {PT : Lp T ρ → Prop} (I : Nat → S → Prop) (J : S → Prop) (R : ρ → Prop) (h0 : I 0 s0) (hs : ∀ s y i, y ∈ ys → i < ys.length → ys[i]? = some y → I i s → Sp (f s y) (LpQ (I (i + 1)) J R)) (k : ∀ s, I ys.length s ∨ J s → Sp (K s) PT) (kr : ∀ x, R x → PT (.ret x)) : Sp (Rn.lpTE f s0 ys K) PT := by
  have := lpT I J R h0 hs k kr
  with_unfolding_all exact ⟨⟨this.1.1, trivial⟩, this.2⟩
end
end Sp
end Mt

set_option Elab.async false
set_option linter.all false
set_option maxRecDepth 100000
set_option maxHeartbeats 2000000
namespace Wk
open PySem PySem.Spec PyProof.Rows L2 TL Dn
def m__law_box_19 (x22_law_cell : Int) (x23_law_seed : Int) : (List Int) := ([(Dn.get (default : Int) ([(0 : Int), x22_law_cell] : List Int) (b2z (decide (((10 : Int) ^ Int.toNat (18 : Int)) ≤ x22_law_cell)))), x23_law_seed] : List Int)
def ok__law_box_19 (x22_law_cell : Int) (x23_law_seed : Int) : Prop := ((IxOk (([(0 : Int), x22_law_cell] : List Int)).length (b2z (decide (((10 : Int) ^ Int.toNat (18 : Int)) ≤ x22_law_cell)))) ∧ True)
def m__law_box_14 (x16_law_k : Int) (x17_law_cell : Int) : (List Int) := (m__law_box_19 (x17_law_cell) ((((((x17_law_cell % (2147483629 : Int)) * (48271 : Int)) + ((40692 : Int) * x16_law_k)) % (2147483629 : Int)) + (1 : Int))))
def ok__law_box_14 (x16_law_k : Int) (x17_law_cell : Int) : Prop := ((MulOk (x17_law_cell % (2147483629 : Int)) (48271 : Int)) ∧ ((MulOk (40692 : Int) x16_law_k) ∧ (ok__law_box_19 (x17_law_cell) ((((((x17_law_cell % (2147483629 : Int)) * (48271 : Int)) + ((40692 : Int) * x16_law_k)) % (2147483629 : Int)) + (1 : Int))))))
def m__law_box_1 (x2_law_script : (List Int)) (x3_law_k : Int) (x4_law_cell : Int) : (List Int) := (let j12 := (bif (decide (x3_law_k < ((x2_law_script).length : Int))) then (Dn.get 0 x2_law_script x3_law_k) else (let j10 := (bif (decide ((0 : Int) < ((x2_law_script).length : Int))) then (x4_law_cell + (((Dn.get 0 x2_law_script (x3_law_k % ((x2_law_script).length : Int))) % (2147483629 : Int)) * (69623 : Int))) else x4_law_cell); j10)); (m__law_box_14 (x3_law_k) (j12)))
def ok__law_box_1 (x2_law_script : (List Int)) (x3_law_k : Int) (x4_law_cell : Int) : Prop := (((decide (x3_law_k < ((x2_law_script).length : Int))) = true → ((IxOk (x2_law_script).length x3_law_k) ∧ True)) ∧ (((decide (x3_law_k < ((x2_law_script).length : Int))) = false → (((decide ((0 : Int) < ((x2_law_script).length : Int))) = true → (((0:Int) < ((x2_law_script).length : Int)) ∧ ((IxOk (x2_law_script).length (x3_law_k % ((x2_law_script).length : Int))) ∧ ((MulOk ((Dn.get 0 x2_law_script (x3_law_k % ((x2_law_script).length : Int))) % (2147483629 : Int)) (69623 : Int)) ∧ True)))) ∧ True)) ∧ (let j12 := (bif (decide (x3_law_k < ((x2_law_script).length : Int))) then (Dn.get 0 x2_law_script x3_law_k) else (let j10 := (bif (decide ((0 : Int) < ((x2_law_script).length : Int))) then (x4_law_cell + (((Dn.get 0 x2_law_script (x3_law_k % ((x2_law_script).length : Int))) % (2147483629 : Int)) * (69623 : Int))) else x4_law_cell); j10)); (ok__law_box_14 (x3_law_k) (j12)))))
def m__law_box (x_law_script : (List Int)) (x_law_k : Int) : (List Int) := (m__law_box_1 (x_law_script) (x_law_k) ((((7919 : Int) * x_law_k) + (11 : Int))))
def ok__law_box (x_law_script : (List Int)) (x_law_k : Int) : Prop := ((MulOk (7919 : Int) x_law_k) ∧ (ok__law_box_1 (x_law_script) (x_law_k) ((((7919 : Int) * x_law_k) + (11 : Int)))))
def m__law_take_7 (x8_law_box_here : (List Int)) (x10_law_digit : Int) : (Int × List Int) := (x10_law_digit, x8_law_box_here)
def ok__law_take_7 (x8_law_box_here : (List Int)) (x10_law_digit : Int) : Prop := True
def m__law_take_2 (x3_law_box_here : (List Int)) (x4_law_many : Int) (x5_law_digit : Int) : (Int × List Int) := (m__law_take_7 (((x3_law_box_here).set (ix (x3_law_box_here).length (0 : Int)) ((Dn.get (default : Int) x3_law_box_here (0 : Int)) / x4_law_many))) (x5_law_digit))
def ok__law_take_2 (x3_law_box_here : (List Int)) (x4_law_many : Int) (x5_law_digit : Int) : Prop := ((IxOk (x3_law_box_here).length (0 : Int)) ∧ ((DivOk x4_law_many) ∧ ((IxOk (x3_law_box_here).length (0 : Int)) ∧ (ok__law_take_7 (((x3_law_box_here).set (ix (x3_law_box_here).length (0 : Int)) ((Dn.get (default : Int) x3_law_box_here (0 : Int)) / x4_law_many))) (x5_law_digit)))))
def m__law_take_22 (x23_law_box_here : (List Int)) (x24_law_many : Int) (x25_law_one : Int) : (Int × List Int) := (((((x25_law_one * (2147483647 : Int)) + (Dn.get (default : Int) x23_law_box_here (1 : Int))) / (8191 : Int)) % x24_law_many), x23_law_box_here)
def ok__law_take_22 (x23_law_box_here : (List Int)) (x24_law_many : Int) (x25_law_one : Int) : Prop := ((MulOk x25_law_one (2147483647 : Int)) ∧ ((IxOk (x23_law_box_here).length (1 : Int)) ∧ (((0:Int) < x24_law_many) ∧ True)))
def m__law_take_17 (x18_law_box_here : (List Int)) (x19_law_many : Int) (x20_law_one : Int) : (Int × List Int) := (m__law_take_22 (((x18_law_box_here).set (ix (x18_law_box_here).length (1 : Int)) ((((x20_law_one * (48271 : Int)) + (30103 : Int)) % (2147483629 : Int)) + (1 : Int)))) (x19_law_many) (x20_law_one))
def ok__law_take_17 (x18_law_box_here : (List Int)) (x19_law_many : Int) (x20_law_one : Int) : Prop := ((MulOk x20_law_one (48271 : Int)) ∧ ((IxOk (x18_law_box_here).length (1 : Int)) ∧ (ok__law_take_22 (((x18_law_box_here).set (ix (x18_law_box_here).length (1 : Int)) ((((x20_law_one * (48271 : Int)) + (30103 : Int)) % (2147483629 : Int)) + (1 : Int)))) (x19_law_many) (x20_law_one))))
def m__law_take (x_law_box_here : (List Int)) (x_law_many : Int) : (Int × List Int) := (bif (decide ((0 : Int) < (Dn.get (default : Int) x_law_box_here (0 : Int)))) then (m__law_take_2 (x_law_box_here) (x_law_many) (((Dn.get (default : Int) x_law_box_here (0 : Int)) % x_law_many))) else (m__law_take_17 (x_law_box_here) (x_law_many) ((((Dn.get (default : Int) x_law_box_here (1 : Int)) * (69623 : Int)) % (2147483647 : Int)))))
def ok__law_take (x_law_box_here : (List Int)) (x_law_many : Int) : Prop := ((IxOk (x_law_box_here).length (0 : Int)) ∧ (((decide ((0 : Int) < (Dn.get (default : Int) x_law_box_here (0 : Int)))) = true → ((IxOk (x_law_box_here).length (0 : Int)) ∧ (((0:Int) < x_law_many) ∧ (ok__law_take_2 (x_law_box_here) (x_law_many) (((Dn.get (default : Int) x_law_box_here (0 : Int)) % x_law_many)))))) ∧ (((decide ((0 : Int) < (Dn.get (default : Int) x_law_box_here (0 : Int)))) = false → ((IxOk (x_law_box_here).length (1 : Int)) ∧ ((MulOk (Dn.get (default : Int) x_law_box_here (1 : Int)) (69623 : Int)) ∧ (ok__law_take_17 (x_law_box_here) (x_law_many) ((((Dn.get (default : Int) x_law_box_here (1 : Int)) * (69623 : Int)) % (2147483647 : Int))))))) ∧ True)))
def m__law_colours_1 (x2_law_box_here : (List Int)) (x3_law_many : Int) (x4_law_left : (List (List Nat))) : ((List Nat) × List Int) := (let u11 := mapS (fun (s9 : ((List Int) × (List (List Nat)))) (y6 : Int) => (let t10 := (m__law_take s9.1 ((s9.2).length : Int)); ((Dn.get (default : (List Nat)) s9.2 t10.1), (t10.2, ((s9.2).eraseIdx (ix (s9.2).length t10.1)))))) (x2_law_box_here, x4_law_left) (rng 0 x3_law_many); ((joinS ([] : List Nat) (sortT .str u11.1)), u11.2.1))
def ok__law_colours_1 (x2_law_box_here : (List Int)) (x3_law_many : Int) (x4_law_left : (List (List Nat))) : Prop := ((RngOk x3_law_many) ∧ ((Sz ((rng 0 x3_law_many)).length) ∧ ((AllS (fun (s9 : ((List Int) × (List (List Nat)))) (y6 : Int) => ((ok__law_take s9.1 ((s9.2).length : Int)) ∧ (let t10 := (m__law_take s9.1 ((s9.2).length : Int)); ((IxOk (s9.2).length t10.1) ∧ ((Sz (s9.2).length) ∧ True))))) (fun (s9 : ((List Int) × (List (List Nat)))) (y6 : Int) => (let t10 := (m__law_take s9.1 ((s9.2).length : Int)); ((Dn.get (default : (List Nat)) s9.2 t10.1), (t10.2, ((s9.2).eraseIdx (ix (s9.2).length t10.1)))))) (x2_law_box_here, x4_law_left) (rng 0 x3_law_many)) ∧ (let u11 := mapS (fun (s9 : ((List Int) × (List (List Nat)))) (y6 : Int) => (let t10 := (m__law_take s9.1 ((s9.2).length : Int)); ((Dn.get (default : (List Nat)) s9.2 t10.1), (t10.2, ((s9.2).eraseIdx (ix (s9.2).length t10.1)))))) (x2_law_box_here, x4_law_left) (rng 0 x3_law_many); ((Sz (u11.1).length) ∧ ((SzJ ([] : List Nat) (sortT .str u11.1)) ∧ True))))))
def m__law_colours (x_law_box_here : (List Int)) (x_law_many : Int) : ((List Nat) × List Int) := (m__law_colours_1 (x_law_box_here) (x_law_many) ((chars ([97, 98, 99, 100, 101, 102, 103, 104, 105, 106, 107, 108, 109, 110, 111, 112, 113, 114, 115, 116, 117, 118, 119, 120, 121, 122] : List Nat))))
def ok__law_colours (x_law_box_here : (List Int)) (x_law_many : Int) : Prop := ((Sz (([97, 98, 99, 100, 101, 102, 103, 104, 105, 106, 107, 108, 109, 110, 111, 112, 113, 114, 115, 116, 117, 118, 119, 120, 121, 122] : List Nat)).length) ∧ (ok__law_colours_1 (x_law_box_here) (x_law_many) ((chars ([97, 98, 99, 100, 101, 102, 103, 104, 105, 106, 107, 108, 109, 110, 111, 112, 113, 114, 115, 116, 117, 118, 119, 120, 121, 122] : List Nat)))))
def m__law_two_47 (x48_law_box_here : (List Int)) (x49_law_colours_here : (List Nat)) (x52_law_many : Int) (x55_law_own : (List (Int × (List Nat) × Int))) (x57_law_way : Int) : ((List Int) × (List (Int × (List Nat) × Int))) := (let t59 := (m__law_take x48_law_box_here ((x49_law_colours_here).length : Int)); (let t60 := (m__law_take t59.2 x52_law_many); (t60.2, (x55_law_own ++ [(x57_law_way, [Dn.get 0 x49_law_colours_here t59.1], t60.1)]))))
def ok__law_two_47 (x48_law_box_here : (List Int)) (x49_law_colours_here : (List Nat)) (x52_law_many : Int) (x55_law_own : (List (Int × (List Nat) × Int))) (x57_law_way : Int) : Prop := ((Sz (x49_law_colours_here).length) ∧ ((ok__law_take x48_law_box_here ((x49_law_colours_here).length : Int)) ∧ (let t59 := (m__law_take x48_law_box_here ((x49_law_colours_here).length : Int)); ((IxOk (x49_law_colours_here).length t59.1) ∧ ((Sz (x49_law_colours_here).length) ∧ ((ok__law_take t59.2 x52_law_many) ∧ ((Sz (x55_law_own).length) ∧ True)))))))
def m__law_two_L36 (x40_law_colours_here : (List Nat)) (x43_law_many : Int) (s37 : ((List Int) × (List (Int × (List Nat) × Int)))) (y38 : Int) : ((List Int) × (List (Int × (List Nat) × Int))) := (let t46 := (m__law_take s37.1 (3 : Int)); (m__law_two_47 (t46.2) (x40_law_colours_here) (x43_law_many) (s37.2) ((Dn.get (default : Int) ([(1 : Int), (1 : Int), (-(1 : Int))] : List Int) t46.1))))
def ok__law_two_L36 (x40_law_colours_here : (List Nat)) (x43_law_many : Int) (s37 : ((List Int) × (List (Int × (List Nat) × Int)))) (y38 : Int) : Prop := ((ok__law_take s37.1 (3 : Int)) ∧ (let t46 := (m__law_take s37.1 (3 : Int)); ((IxOk (([(1 : Int), (1 : Int), (-(1 : Int))] : List Int)).length t46.1) ∧ (ok__law_two_47 (t46.2) (x40_law_colours_here) (x43_law_many) (s37.2) ((Dn.get (default : Int) ([(1 : Int), (1 : Int), (-(1 : Int))] : List Int) t46.1))))))
def m__law_two_66 (x67_law_box_here : (List Int)) (x72_law_found : (List (Bool × (List (Int × (List Nat) × Int))))) (x74_law_own : (List (Int × (List Nat) × Int))) : ((List Int) × (List (Bool × (List (Int × (List Nat) × Int))))) := (let t76 := (m__law_take x67_law_box_here (3 : Int)); (t76.2, (x72_law_found ++ [((decide (t76.1 = (0 : Int))), x74_law_own)])))
def ok__law_two_66 (x67_law_box_here : (List Int)) (x72_law_found : (List (Bool × (List (Int × (List Nat) × Int))))) (x74_law_own : (List (Int × (List Nat) × Int))) : Prop := ((ok__law_take x67_law_box_here (3 : Int)) ∧ ((Sz (x72_law_found).length) ∧ True))
def m__law_two_25 (x26_law_box_here : (List Int)) (x27_law_colours_here : (List Nat)) (x29_law_goes : Int) (x30_law_many : Int) (x31_law_found : (List (Bool × (List (Int × (List Nat) × Int))))) (x33_law_own : (List (Int × (List Nat) × Int))) : ((List Int) × (List (Bool × (List (Int × (List Nat) × Int))))) := (let t35 := (m__law_take x26_law_box_here (x29_law_goes + (1 : Int))); (let l65 := ((rng 0 t35.1)).foldl (m__law_two_L36 (x27_law_colours_here) (x30_law_many)) (t35.2, x33_law_own); (m__law_two_66 (l65.1) (x31_law_found) (l65.2))))
def ok__law_two_25 (x26_law_box_here : (List Int)) (x27_law_colours_here : (List Nat)) (x29_law_goes : Int) (x30_law_many : Int) (x31_law_found : (List (Bool × (List (Int × (List Nat) × Int))))) (x33_law_own : (List (Int × (List Nat) × Int))) : Prop := ((ok__law_take x26_law_box_here (x29_law_goes + (1 : Int))) ∧ (let t35 := (m__law_take x26_law_box_here (x29_law_goes + (1 : Int))); ((RngOk t35.1) ∧ ((AllF (ok__law_two_L36 (x27_law_colours_here) (x30_law_many)) (m__law_two_L36 (x27_law_colours_here) (x30_law_many)) (t35.2, x33_law_own) (rng 0 t35.1)) ∧ (let l65 := ((rng 0 t35.1)).foldl (m__law_two_L36 (x27_law_colours_here) (x30_law_many)) (t35.2, x33_law_own); (ok__law_two_66 (l65.1) (x31_law_found) (l65.2)))))))
def m__law_two_L17 (x21_law_colours_here : (List Nat)) (x23_law_goes : Int) (x24_law_many : Int) (s18 : ((List Int) × (List (Bool × (List (Int × (List Nat) × Int)))))) (y19 : Int) : ((List Int) × (List (Bool × (List (Int × (List Nat) × Int))))) := (m__law_two_25 (s18.1) (x21_law_colours_here) (x23_law_goes) (x24_law_many) (s18.2) (([] : List (Int × (List Nat) × Int))))
def ok__law_two_L17 (x21_law_colours_here : (List Nat)) (x23_law_goes : Int) (x24_law_many : Int) (s18 : ((List Int) × (List (Bool × (List (Int × (List Nat) × Int)))))) (y19 : Int) : Prop := (ok__law_two_25 (s18.1) (x21_law_colours_here) (x23_law_goes) (x24_law_many) (s18.2) (([] : List (Int × (List Nat) × Int))))
def m__law_two_84 (x85_law_box_here : (List Int)) (x90_law_found : (List (Bool × (List (Int × (List Nat) × Int))))) : ((List (Bool × (List (Int × (List Nat) × Int)))) × List Int) := (x90_law_found, x85_law_box_here)
def ok__law_two_84 (x85_law_box_here : (List Int)) (x90_law_found : (List (Bool × (List (Int × (List Nat) × Int))))) : Prop := True
def m__law_two_9 (x10_law_box_here : (List Int)) (x11_law_colours_here : (List Nat)) (x13_law_goes : Int) (x14_law_many : Int) (x15_law_found : (List (Bool × (List (Int × (List Nat) × Int))))) : ((List (Bool × (List (Int × (List Nat) × Int)))) × List Int) := (let l83 := ((rng 0 x14_law_many)).foldl (m__law_two_L17 (x11_law_colours_here) (x13_law_goes) (x14_law_many)) (x10_law_box_here, x15_law_found); (m__law_two_84 (l83.1) (l83.2)))
def ok__law_two_9 (x10_law_box_here : (List Int)) (x11_law_colours_here : (List Nat)) (x13_law_goes : Int) (x14_law_many : Int) (x15_law_found : (List (Bool × (List (Int × (List Nat) × Int))))) : Prop := ((RngOk x14_law_many) ∧ ((AllF (ok__law_two_L17 (x11_law_colours_here) (x13_law_goes) (x14_law_many)) (m__law_two_L17 (x11_law_colours_here) (x13_law_goes) (x14_law_many)) (x10_law_box_here, x15_law_found) (rng 0 x14_law_many)) ∧ (let l83 := ((rng 0 x14_law_many)).foldl (m__law_two_L17 (x11_law_colours_here) (x13_law_goes) (x14_law_many)) (x10_law_box_here, x15_law_found); (ok__law_two_84 (l83.1) (l83.2)))))
def m__law_two_2 (x3_law_box_here : (List Int)) (x4_law_colours_here : (List Nat)) (x6_law_goes : Int) (x7_law_many : Int) : ((List (Bool × (List (Int × (List Nat) × Int)))) × List Int) := (m__law_two_9 (x3_law_box_here) (x4_law_colours_here) (x6_law_goes) (x7_law_many) (([] : List (Bool × (List (Int × (List Nat) × Int))))))
def ok__law_two_2 (x3_law_box_here : (List Int)) (x4_law_colours_here : (List Nat)) (x6_law_goes : Int) (x7_law_many : Int) : Prop := (ok__law_two_9 (x3_law_box_here) (x4_law_colours_here) (x6_law_goes) (x7_law_many) (([] : List (Bool × (List (Int × (List Nat) × Int))))))
def m__law_two (x_law_box_here : (List Int)) (x_law_colours_here : (List Nat)) (x_law_rows : Int) (x_law_goes : Int) : ((List (Bool × (List (Int × (List Nat) × Int)))) × List Int) := (let t1 := (m__law_take x_law_box_here x_law_rows); (m__law_two_2 (t1.2) (x_law_colours_here) (x_law_goes) (((1 : Int) + t1.1))))
def ok__law_two (x_law_box_here : (List Int)) (x_law_colours_here : (List Nat)) (x_law_rows : Int) (x_law_goes : Int) : Prop := ((ok__law_take x_law_box_here x_law_rows) ∧ (let t1 := (m__law_take x_law_box_here x_law_rows); (ok__law_two_2 (t1.2) (x_law_colours_here) (x_law_goes) (((1 : Int) + t1.1)))))
def m_is_going_2 (x3_colours : (List Nat)) (x4_two : (List (Bool × (List (Int × (List Nat) × Int))))) (x6_way : Int) (x7_colour : (List Nat)) (x8_row : Int) : Bool := ((memD x6_way [(1 : Int), (-(1 : Int))]) && ((decide (((x7_colour).length : Int) = (1 : Int))) && (((sfind x3_colours x7_colour).isSome) && ((decide ((0 : Int) ≤ x8_row)) && (decide (x8_row < ((x4_two).length : Int)))))))
def ok_is_going_2 (x3_colours : (List Nat)) (x4_two : (List (Bool × (List (Int × (List Nat) × Int))))) (x6_way : Int) (x7_colour : (List Nat)) (x8_row : Int) : Prop := (((memD x6_way [(1 : Int), (-(1 : Int))]) = true → ((Sz (x7_colour).length) ∧ True)) ∧ True)
def m_is_going (x_colours : (List Nat)) (x_two : (List (Bool × (List (Int × (List Nat) × Int))))) (x_going : (Int × (List Nat) × Int)) : Bool := (let t1 := x_going; (m_is_going_2 (x_colours) (x_two) ((t1.1)) ((t1.2.1)) ((t1.2.2))))
def ok_is_going (x_colours : (List Nat)) (x_two : (List (Bool × (List (Int × (List Nat) × Int))))) (x_going : (Int × (List Nat) × Int)) : Prop := (let t1 := x_going; (ok_is_going_2 (x_colours) (x_two) ((t1.1)) ((t1.2.1)) ((t1.2.2))))
def m_is_two_way_L6  (s7 : (List (Int × (List Nat) × Int))) (y8 : (Bool × (List (Int × (List Nat) × Int)))) : (List (Int × (List Nat) × Int)) := (s7 ++ (y8.2))
def ok_is_two_way_L6  (s7 : (List (Int × (List Nat) × Int))) (y8 : (Bool × (List (Int × (List Nat) × Int)))) : Prop := ((Sz ((s7).length + ((y8.2)).length)) ∧ True)
def m_is_two_way_14 (x15_colours : (List Nat)) (x16_two : (List (Bool × (List (Int × (List Nat) × Int))))) (x17_every : (List (Int × (List Nat) × Int))) : Bool := ((decide ((0 : Int) < ((x16_two).length : Int))) && (((List.map (fun (y20 : (Int × (List Nat) × Int)) => (m_is_going x15_colours x16_two y20)) x17_every)).all id))
def ok_is_two_way_14 (x15_colours : (List Nat)) (x16_two : (List (Bool × (List (Int × (List Nat) × Int))))) (x17_every : (List (Int × (List Nat) × Int))) : Prop := (((decide ((0 : Int) < ((x16_two).length : Int))) = true → ((Sz (x17_every).length) ∧ ((∀ y20 ∈ x17_every, ((ok_is_going x15_colours x16_two y20) ∧ True)) ∧ True))) ∧ True)
def m_is_two_way_1 (x2_colours : (List Nat)) (x3_two : (List (Bool × (List (Int × (List Nat) × Int))))) (x4_every : (List (Int × (List Nat) × Int))) : Bool := (let l13 := (x3_two).foldl m_is_two_way_L6 x4_every; (m_is_two_way_14 (x2_colours) (x3_two) (l13)))
def ok_is_two_way_1 (x2_colours : (List Nat)) (x3_two : (List (Bool × (List (Int × (List Nat) × Int))))) (x4_every : (List (Int × (List Nat) × Int))) : Prop := ((AllF ok_is_two_way_L6 m_is_two_way_L6 x4_every x3_two) ∧ (let l13 := (x3_two).foldl m_is_two_way_L6 x4_every; (ok_is_two_way_14 (x2_colours) (x3_two) (l13))))
def m_is_two_way (x_colours : (List Nat)) (x_two : (List (Bool × (List (Int × (List Nat) × Int))))) : Bool := (m_is_two_way_1 (x_colours) (x_two) (([] : List (Int × (List Nat) × Int))))
def ok_is_two_way (x_colours : (List Nat)) (x_two : (List (Bool × (List (Int × (List Nat) × Int))))) : Prop := (ok_is_two_way_1 (x_colours) (x_two) (([] : List (Int × (List Nat) × Int))))
def m__law_bent_76 (x77_law_box_here : (List Int)) (x78_law_colours_here : (List Nat)) (x85_law_colour : (List Nat)) (x88_law_rest : (List (List Nat))) : ((List Int) × (List Nat)) := (let t90 := (m__law_take x77_law_box_here ((x88_law_rest).length : Int)); (let t91 := (m__law_take t90.2 (5 : Int)); (t91.2, (Dn.get (default : (List Nat)) ([([] : List Nat), x78_law_colours_here, (x85_law_colour ++ x85_law_colour), (Dn.get (default : (List Nat)) x88_law_rest t90.1), ([65] : List Nat)] : List (List Nat)) t91.1))))
def ok__law_bent_76 (x77_law_box_here : (List Int)) (x78_law_colours_here : (List Nat)) (x85_law_colour : (List Nat)) (x88_law_rest : (List (List Nat))) : Prop := ((Sz ((x85_law_colour).length + (x85_law_colour).length)) ∧ ((ok__law_take x77_law_box_here ((x88_law_rest).length : Int)) ∧ (let t90 := (m__law_take x77_law_box_here ((x88_law_rest).length : Int)); ((IxOk (x88_law_rest).length t90.1) ∧ ((ok__law_take t90.2 (5 : Int)) ∧ (let t91 := (m__law_take t90.2 (5 : Int)); ((IxOk (([([] : List Nat), x78_law_colours_here, (x85_law_colour ++ x85_law_colour), (Dn.get (default : (List Nat)) x88_law_rest t90.1), ([65] : List Nat)] : List (List Nat))).length t91.1) ∧ True)))))))
def m__law_bent_128 (x129_law_box_here : (List Int)) (x131_law_two_here : (List (Bool × (List (Int × (List Nat) × Int))))) (x132_law_k : Int) (x133_law_mark : Bool) (x140_law_other : (List (Int × (List Nat) × Int))) : ((List (Bool × (List (Int × (List Nat) × Int)))) × List Int) := ((((cut x131_law_two_here none (some x132_law_k)) ++ [(x133_law_mark, x140_law_other)]) ++ (cut x131_law_two_here (some (x132_law_k + (1 : Int))) none)), x129_law_box_here)
def ok__law_bent_128 (x129_law_box_here : (List Int)) (x131_law_two_here : (List (Bool × (List (Int × (List Nat) × Int))))) (x132_law_k : Int) (x133_law_mark : Bool) (x140_law_other : (List (Int × (List Nat) × Int))) : Prop := ((Sz (((cut x131_law_two_here none (some x132_law_k))).length + ([(x133_law_mark, x140_law_other)]).length)) ∧ ((Sz ((((cut x131_law_two_here none (some x132_law_k)) ++ [(x133_law_mark, x140_law_other)])).length + ((cut x131_law_two_here (some (x132_law_k + (1 : Int))) none)).length)) ∧ True))
def m__law_bent_115 (x116_law_box_here : (List Int)) (x118_law_two_here : (List (Bool × (List (Int × (List Nat) × Int))))) (x119_law_k : Int) (x120_law_mark : Bool) (x121_law_goes : (List (Int × (List Nat) × Int))) (x122_law_at : Int) (x123_law_way : Int) (x124_law_colour : (List Nat)) (x125_law_goal : Int) : ((List (Bool × (List (Int × (List Nat) × Int)))) × List Int) := (m__law_bent_128 (x116_law_box_here) (x118_law_two_here) (x119_law_k) (x120_law_mark) ((((cut x121_law_goes none (some x122_law_at)) ++ [(x123_law_way, x124_law_colour, x125_law_goal)]) ++ (cut x121_law_goes (some (x122_law_at + (1 : Int))) none))))
def ok__law_bent_115 (x116_law_box_here : (List Int)) (x118_law_two_here : (List (Bool × (List (Int × (List Nat) × Int))))) (x119_law_k : Int) (x120_law_mark : Bool) (x121_law_goes : (List (Int × (List Nat) × Int))) (x122_law_at : Int) (x123_law_way : Int) (x124_law_colour : (List Nat)) (x125_law_goal : Int) : Prop := ((Sz (((cut x121_law_goes none (some x122_law_at))).length + ([(x123_law_way, x124_law_colour, x125_law_goal)]).length)) ∧ ((Sz ((((cut x121_law_goes none (some x122_law_at)) ++ [(x123_law_way, x124_law_colour, x125_law_goal)])).length + ((cut x121_law_goes (some (x122_law_at + (1 : Int))) none)).length)) ∧ (ok__law_bent_128 (x116_law_box_here) (x118_law_two_here) (x119_law_k) (x120_law_mark) ((((cut x121_law_goes none (some x122_law_at)) ++ [(x123_law_way, x124_law_colour, x125_law_goal)]) ++ (cut x121_law_goes (some (x122_law_at + (1 : Int))) none))))))
def m__law_bent_97 (x98_law_box_here : (List Int)) (x100_law_two_here : (List (Bool × (List (Int × (List Nat) × Int))))) (x101_law_k : Int) (x102_law_mark : Bool) (x103_law_goes : (List (Int × (List Nat) × Int))) (x104_law_at : Int) (x105_law_way : Int) (x106_law_colour : (List Nat)) (x107_law_goal : Int) (x108_law_kind : Int) : ((List (Bool × (List (Int × (List Nat) × Int)))) × List Int) := (let j113 := (bif (decide ((1 : Int) < x108_law_kind)) then (let t111 := (m__law_take x98_law_box_here (5 : Int)); (t111.2, (Dn.get (default : Int) ([((x100_law_two_here).length : Int), (-(1 : Int)), (((x100_law_two_here).length : Int) - (1 : Int)), ((10 : Int) ^ Int.toNat (20 : Int)), (-((x100_law_two_here).length : Int))] : List Int) t111.1))) else (x98_law_box_here, x107_law_goal)); (m__law_bent_115 (j113.1) (x100_law_two_here) (x101_law_k) (x102_law_mark) (x103_law_goes) (x104_law_at) (x105_law_way) (x106_law_colour) (j113.2)))
def ok__law_bent_97 (x98_law_box_here : (List Int)) (x100_law_two_here : (List (Bool × (List (Int × (List Nat) × Int))))) (x101_law_k : Int) (x102_law_mark : Bool) (x103_law_goes : (List (Int × (List Nat) × Int))) (x104_law_at : Int) (x105_law_way : Int) (x106_law_colour : (List Nat)) (x107_law_goal : Int) (x108_law_kind : Int) : Prop := (((decide ((1 : Int) < x108_law_kind)) = true → ((ok__law_take x98_law_box_here (5 : Int)) ∧ (let t111 := (m__law_take x98_law_box_here (5 : Int)); ((IxOk (([((x100_law_two_here).length : Int), (-(1 : Int)), (((x100_law_two_here).length : Int) - (1 : Int)), ((10 : Int) ^ Int.toNat (20 : Int)), (-((x100_law_two_here).length : Int))] : List Int)).length t111.1) ∧ True)))) ∧ (let j113 := (bif (decide ((1 : Int) < x108_law_kind)) then (let t111 := (m__law_take x98_law_box_here (5 : Int)); (t111.2, (Dn.get (default : Int) ([((x100_law_two_here).length : Int), (-(1 : Int)), (((x100_law_two_here).length : Int) - (1 : Int)), ((10 : Int) ^ Int.toNat (20 : Int)), (-((x100_law_two_here).length : Int))] : List Int) t111.1))) else (x98_law_box_here, x107_law_goal)); (ok__law_bent_115 (j113.1) (x100_law_two_here) (x101_law_k) (x102_law_mark) (x103_law_goes) (x104_law_at) (x105_law_way) (x106_law_colour) (j113.2))))
def m__law_bent_59 (x60_law_box_here : (List Int)) (x61_law_colours_here : (List Nat)) (x62_law_two_here : (List (Bool × (List (Int × (List Nat) × Int))))) (x63_law_k : Int) (x64_law_mark : Bool) (x65_law_goes : (List (Int × (List Nat) × Int))) (x66_law_at : Int) (x67_law_way : Int) (x68_law_colour : (List Nat)) (x69_law_goal : Int) (x70_law_kind : Int) : ((List (Bool × (List (Int × (List Nat) × Int)))) × List Int) := (let j95 := (bif (decide (x70_law_kind = (1 : Int))) then (m__law_bent_76 (x60_law_box_here) (x61_law_colours_here) (x68_law_colour) (((List.filter (fun (y73 : (List Nat)) => (!(sfind x61_law_colours_here y73).isSome)) (chars ([97, 98, 99, 100, 101, 102, 103, 104, 105, 106, 107, 108, 109, 110, 111, 112, 113, 114, 115, 116, 117, 118, 119, 120, 121, 122] : List Nat))).map (fun (y73 : (List Nat)) => y73)))) else (x60_law_box_here, x68_law_colour)); (m__law_bent_97 (j95.1) (x62_law_two_here) (x63_law_k) (x64_law_mark) (x65_law_goes) (x66_law_at) (x67_law_way) (j95.2) (x69_law_goal) (x70_law_kind)))
def ok__law_bent_59 (x60_law_box_here : (List Int)) (x61_law_colours_here : (List Nat)) (x62_law_two_here : (List (Bool × (List (Int × (List Nat) × Int))))) (x63_law_k : Int) (x64_law_mark : Bool) (x65_law_goes : (List (Int × (List Nat) × Int))) (x66_law_at : Int) (x67_law_way : Int) (x68_law_colour : (List Nat)) (x69_law_goal : Int) (x70_law_kind : Int) : Prop := (((decide (x70_law_kind = (1 : Int))) = true → ((Sz ((chars ([97, 98, 99, 100, 101, 102, 103, 104, 105, 106, 107, 108, 109, 110, 111, 112, 113, 114, 115, 116, 117, 118, 119, 120, 121, 122] : List Nat))).length) ∧ (ok__law_bent_76 (x60_law_box_here) (x61_law_colours_here) (x68_law_colour) (((List.filter (fun (y73 : (List Nat)) => (!(sfind x61_law_colours_here y73).isSome)) (chars ([97, 98, 99, 100, 101, 102, 103, 104, 105, 106, 107, 108, 109, 110, 111, 112, 113, 114, 115, 116, 117, 118, 119, 120, 121, 122] : List Nat))).map (fun (y73 : (List Nat)) => y73)))))) ∧ (let j95 := (bif (decide (x70_law_kind = (1 : Int))) then (m__law_bent_76 (x60_law_box_here) (x61_law_colours_here) (x68_law_colour) (((List.filter (fun (y73 : (List Nat)) => (!(sfind x61_law_colours_here y73).isSome)) (chars ([97, 98, 99, 100, 101, 102, 103, 104, 105, 106, 107, 108, 109, 110, 111, 112, 113, 114, 115, 116, 117, 118, 119, 120, 121, 122] : List Nat))).map (fun (y73 : (List Nat)) => y73)))) else (x60_law_box_here, x68_law_colour)); (ok__law_bent_97 (j95.1) (x62_law_two_here) (x63_law_k) (x64_law_mark) (x65_law_goes) (x66_law_at) (x67_law_way) (j95.2) (x69_law_goal) (x70_law_kind))))
def m__law_bent_41 (x42_law_box_here : (List Int)) (x43_law_colours_here : (List Nat)) (x44_law_two_here : (List (Bool × (List (Int × (List Nat) × Int))))) (x45_law_k : Int) (x46_law_mark : Bool) (x47_law_goes : (List (Int × (List Nat) × Int))) (x48_law_at : Int) (x49_law_way : Int) (x50_law_colour : (List Nat)) (x51_law_goal : Int) (x52_law_kind : Int) : ((List (Bool × (List (Int × (List Nat) × Int)))) × List Int) := (let j57 := (bif (decide (x52_law_kind = (0 : Int))) then (let t55 := (m__law_take x42_law_box_here (6 : Int)); (t55.2, (Dn.get (default : Int) ([(0 : Int), (2 : Int), (-(2 : Int)), (1 : Int), (-(1 : Int)), ((10 : Int) ^ Int.toNat (20 : Int))] : List Int) t55.1))) else (x42_law_box_here, x49_law_way)); (m__law_bent_59 (j57.1) (x43_law_colours_here) (x44_law_two_here) (x45_law_k) (x46_law_mark) (x47_law_goes) (x48_law_at) (j57.2) (x50_law_colour) (x51_law_goal) (x52_law_kind)))
def ok__law_bent_41 (x42_law_box_here : (List Int)) (x43_law_colours_here : (List Nat)) (x44_law_two_here : (List (Bool × (List (Int × (List Nat) × Int))))) (x45_law_k : Int) (x46_law_mark : Bool) (x47_law_goes : (List (Int × (List Nat) × Int))) (x48_law_at : Int) (x49_law_way : Int) (x50_law_colour : (List Nat)) (x51_law_goal : Int) (x52_law_kind : Int) : Prop := (((decide (x52_law_kind = (0 : Int))) = true → ((ok__law_take x42_law_box_here (6 : Int)) ∧ (let t55 := (m__law_take x42_law_box_here (6 : Int)); ((IxOk (([(0 : Int), (2 : Int), (-(2 : Int)), (1 : Int), (-(1 : Int)), ((10 : Int) ^ Int.toNat (20 : Int))] : List Int)).length t55.1) ∧ True)))) ∧ (let j57 := (bif (decide (x52_law_kind = (0 : Int))) then (let t55 := (m__law_take x42_law_box_here (6 : Int)); (t55.2, (Dn.get (default : Int) ([(0 : Int), (2 : Int), (-(2 : Int)), (1 : Int), (-(1 : Int)), ((10 : Int) ^ Int.toNat (20 : Int))] : List Int) t55.1))) else (x42_law_box_here, x49_law_way)); (ok__law_bent_59 (j57.1) (x43_law_colours_here) (x44_law_two_here) (x45_law_k) (x46_law_mark) (x47_law_goes) (x48_law_at) (j57.2) (x50_law_colour) (x51_law_goal) (x52_law_kind))))
def m__law_bent_28 (x29_law_box_here : (List Int)) (x30_law_colours_here : (List Nat)) (x31_law_two_here : (List (Bool × (List (Int × (List Nat) × Int))))) (x32_law_k : Int) (x33_law_mark : Bool) (x34_law_goes : (List (Int × (List Nat) × Int))) (x35_law_at : Int) (x36_law_way : Int) (x37_law_colour : (List Nat)) (x38_law_goal : Int) : ((List (Bool × (List (Int × (List Nat) × Int)))) × List Int) := (let t40 := (m__law_take x29_law_box_here (4 : Int)); (m__law_bent_41 (t40.2) (x30_law_colours_here) (x31_law_two_here) (x32_law_k) (x33_law_mark) (x34_law_goes) (x35_law_at) (x36_law_way) (x37_law_colour) (x38_law_goal) (t40.1)))
def ok__law_bent_28 (x29_law_box_here : (List Int)) (x30_law_colours_here : (List Nat)) (x31_law_two_here : (List (Bool × (List (Int × (List Nat) × Int))))) (x32_law_k : Int) (x33_law_mark : Bool) (x34_law_goes : (List (Int × (List Nat) × Int))) (x35_law_at : Int) (x36_law_way : Int) (x37_law_colour : (List Nat)) (x38_law_goal : Int) : Prop := ((ok__law_take x29_law_box_here (4 : Int)) ∧ (let t40 := (m__law_take x29_law_box_here (4 : Int)); (ok__law_bent_41 (t40.2) (x30_law_colours_here) (x31_law_two_here) (x32_law_k) (x33_law_mark) (x34_law_goes) (x35_law_at) (x36_law_way) (x37_law_colour) (x38_law_goal) (t40.1))))
def m__law_bent_18 (x19_law_box_here : (List Int)) (x20_law_colours_here : (List Nat)) (x21_law_two_here : (List (Bool × (List (Int × (List Nat) × Int))))) (x22_law_k : Int) (x23_law_mark : Bool) (x24_law_goes : (List (Int × (List Nat) × Int))) (x25_law_at : Int) : ((List (Bool × (List (Int × (List Nat) × Int)))) × List Int) := (let t27 := (Dn.get (default : (Int × (List Nat) × Int)) (x24_law_goes ++ [((1 : Int), [Dn.get 0 x20_law_colours_here (0 : Int)], (0 : Int))]) x25_law_at); (m__law_bent_28 (x19_law_box_here) (x20_law_colours_here) (x21_law_two_here) (x22_law_k) (x23_law_mark) (x24_law_goes) (x25_law_at) ((t27.1)) ((t27.2.1)) ((t27.2.2))))
def ok__law_bent_18 (x19_law_box_here : (List Int)) (x20_law_colours_here : (List Nat)) (x21_law_two_here : (List (Bool × (List (Int × (List Nat) × Int))))) (x22_law_k : Int) (x23_law_mark : Bool) (x24_law_goes : (List (Int × (List Nat) × Int))) (x25_law_at : Int) : Prop := ((IxOk (x20_law_colours_here).length (0 : Int)) ∧ ((Sz (x20_law_colours_here).length) ∧ ((Sz ((x24_law_goes).length + ([((1 : Int), [Dn.get 0 x20_law_colours_here (0 : Int)], (0 : Int))]).length)) ∧ ((IxOk ((x24_law_goes ++ [((1 : Int), [Dn.get 0 x20_law_colours_here (0 : Int)], (0 : Int))])).length x25_law_at) ∧ (let t27 := (Dn.get (default : (Int × (List Nat) × Int)) (x24_law_goes ++ [((1 : Int), [Dn.get 0 x20_law_colours_here (0 : Int)], (0 : Int))]) x25_law_at); (ok__law_bent_28 (x19_law_box_here) (x20_law_colours_here) (x21_law_two_here) (x22_law_k) (x23_law_mark) (x24_law_goes) (x25_law_at) ((t27.1)) ((t27.2.1)) ((t27.2.2))))))))
def m__law_bent_9 (x10_law_box_here : (List Int)) (x11_law_colours_here : (List Nat)) (x12_law_two_here : (List (Bool × (List (Int × (List Nat) × Int))))) (x13_law_k : Int) (x14_law_mark : Bool) (x15_law_goes : (List (Int × (List Nat) × Int))) : ((List (Bool × (List (Int × (List Nat) × Int)))) × List Int) := (let t17 := (m__law_take x10_law_box_here (min (((x15_law_goes).length : Int) + (1 : Int)) (5 : Int))); (m__law_bent_18 (t17.2) (x11_law_colours_here) (x12_law_two_here) (x13_law_k) (x14_law_mark) (x15_law_goes) (t17.1)))
def ok__law_bent_9 (x10_law_box_here : (List Int)) (x11_law_colours_here : (List Nat)) (x12_law_two_here : (List (Bool × (List (Int × (List Nat) × Int))))) (x13_law_k : Int) (x14_law_mark : Bool) (x15_law_goes : (List (Int × (List Nat) × Int))) : Prop := ((ok__law_take x10_law_box_here (min (((x15_law_goes).length : Int) + (1 : Int)) (5 : Int))) ∧ (let t17 := (m__law_take x10_law_box_here (min (((x15_law_goes).length : Int) + (1 : Int)) (5 : Int))); (ok__law_bent_18 (t17.2) (x11_law_colours_here) (x12_law_two_here) (x13_law_k) (x14_law_mark) (x15_law_goes) (t17.1))))
def m__law_bent_2 (x3_law_box_here : (List Int)) (x4_law_colours_here : (List Nat)) (x5_law_two_here : (List (Bool × (List (Int × (List Nat) × Int))))) (x6_law_k : Int) : ((List (Bool × (List (Int × (List Nat) × Int)))) × List Int) := (let t8 := (Dn.get (default : (Bool × (List (Int × (List Nat) × Int)))) x5_law_two_here x6_law_k); (m__law_bent_9 (x3_law_box_here) (x4_law_colours_here) (x5_law_two_here) (x6_law_k) ((t8.1)) ((t8.2))))
def ok__law_bent_2 (x3_law_box_here : (List Int)) (x4_law_colours_here : (List Nat)) (x5_law_two_here : (List (Bool × (List (Int × (List Nat) × Int))))) (x6_law_k : Int) : Prop := ((IxOk (x5_law_two_here).length x6_law_k) ∧ (let t8 := (Dn.get (default : (Bool × (List (Int × (List Nat) × Int)))) x5_law_two_here x6_law_k); (ok__law_bent_9 (x3_law_box_here) (x4_law_colours_here) (x5_law_two_here) (x6_law_k) ((t8.1)) ((t8.2)))))
def m__law_bent (x_law_box_here : (List Int)) (x_law_colours_here : (List Nat)) (x_law_two_here : (List (Bool × (List (Int × (List Nat) × Int))))) : ((List (Bool × (List (Int × (List Nat) × Int)))) × List Int) := (let t1 := (m__law_take x_law_box_here ((x_law_two_here).length : Int)); (m__law_bent_2 (t1.2) (x_law_colours_here) (x_law_two_here) (t1.1)))
def ok__law_bent (x_law_box_here : (List Int)) (x_law_colours_here : (List Nat)) (x_law_two_here : (List (Bool × (List (Int × (List Nat) × Int))))) : Prop := ((ok__law_take x_law_box_here ((x_law_two_here).length : Int)) ∧ (let t1 := (m__law_take x_law_box_here ((x_law_two_here).length : Int)); (ok__law_bent_2 (t1.2) (x_law_colours_here) (x_law_two_here) (t1.1))))
def m__law_due_L7 (x11_law_colours_here : (List Nat)) (x12_law_two_here : (List (Bool × (List (Int × (List Nat) × Int))))) (s8 : Unit) (y9 : (Int × (List Nat) × Int)) : (Lp Unit Bool) := (bif (((!decide ((y9.1) = (1 : Int))) && (!decide ((y9.1) = (-(1 : Int))))) || ((!memD (y9.2.1) (chars x11_law_colours_here)) || (!((decide ((0 : Int) ≤ (y9.2.2))) && (decide ((y9.2.2) < ((x12_law_two_here).length : Int))))))) then (Lp.ret false) else (Lp.go ()))
def ok__law_due_L7 (x11_law_colours_here : (List Nat)) (x12_law_two_here : (List (Bool × (List (Int × (List Nat) × Int))))) (s8 : Unit) (y9 : (Int × (List Nat) × Int)) : Prop := ((((!decide ((y9.1) = (1 : Int))) && (!decide ((y9.1) = (-(1 : Int))))) = false → ((Sz (x11_law_colours_here).length) ∧ ((Lay .str (y9.2.1)) ∧ ((∀ y ∈ (chars x11_law_colours_here), Lay .str y) ∧ True)))) ∧ True)
def m__law_due_L1 (x5_law_colours_here : (List Nat)) (x6_law_two_here : (List (Bool × (List (Int × (List Nat) × Int))))) (s2 : Unit) (y3 : (Bool × (List (Int × (List Nat) × Int)))) : (Lp Unit Bool) := ((loopL (m__law_due_L7 (x5_law_colours_here) (x6_law_two_here)) () (y3.2)).then (fun (s22 : Unit) => (Lp.go ())))
def ok__law_due_L1 (x5_law_colours_here : (List Nat)) (x6_law_two_here : (List (Bool × (List (Int × (List Nat) × Int))))) (s2 : Unit) (y3 : (Bool × (List (Int × (List Nat) × Int)))) : Prop := ((AllL (ok__law_due_L7 (x5_law_colours_here) (x6_law_two_here)) (m__law_due_L7 (x5_law_colours_here) (x6_law_two_here)) () (y3.2)) ∧ True)
def m__law_due_25 (x27_law_two_here : (List (Bool × (List (Int × (List Nat) × Int))))) : Bool := (decide ((0 : Int) < ((x27_law_two_here).length : Int)))
def ok__law_due_25 (x27_law_two_here : (List (Bool × (List (Int × (List Nat) × Int))))) : Prop := True
def m__law_due (x_law_colours_here : (List Nat)) (x_law_two_here : (List (Bool × (List (Int × (List Nat) × Int))))) : Bool := ((loopL (m__law_due_L1 (x_law_colours_here) (x_law_two_here)) () x_law_two_here).fin (fun (s24 : Unit) => (m__law_due_25 (x_law_two_here))))
def ok__law_due (x_law_colours_here : (List Nat)) (x_law_two_here : (List (Bool × (List (Int × (List Nat) × Int))))) : Prop := ((AllL (ok__law_due_L1 (x_law_colours_here) (x_law_two_here)) (m__law_due_L1 (x_law_colours_here) (x_law_two_here)) () x_law_two_here) ∧ ((loopL (m__law_due_L1 (x_law_colours_here) (x_law_two_here)) () x_law_two_here).done (fun (s24 : Unit) => (ok__law_due_25 (x_law_two_here)))))
def m_law_52 (x56_law_colours_here : (List Nat)) (x59_law_one : (List (Bool × (List (Int × (List Nat) × Int))))) (x60_law_found : Bool) : (Lp Unit Bool) := (bif ((!true) || (!decide (x60_law_found = (m__law_due x56_law_colours_here x59_law_one)))) then (Lp.ret false) else (Lp.go ()))
def ok_law_52 (x56_law_colours_here : (List Nat)) (x59_law_one : (List (Bool × (List (Int × (List Nat) × Int))))) (x60_law_found : Bool) : Prop := (((!true) = false → ((ok__law_due x56_law_colours_here x59_law_one) ∧ True)) ∧ True)
def m_law_L42 (x49_law_colours_here : (List Nat)) (s43 : Unit) (y44 : (List (Bool × (List (Int × (List Nat) × Int))))) : (Lp Unit Bool) := (m_law_52 (x49_law_colours_here) (y44) ((m_is_two_way x49_law_colours_here y44)))
def ok_law_L42 (x49_law_colours_here : (List Nat)) (s43 : Unit) (y44 : (List (Bool × (List (Int × (List Nat) × Int))))) : Prop := ((ok_is_two_way x49_law_colours_here y44) ∧ (ok_law_52 (x49_law_colours_here) (y44) ((m_is_two_way x49_law_colours_here y44))))
def m_law_34 (x38_law_colours_here : (List Nat)) (x39_law_two_here : (List (Bool × (List (Int × (List Nat) × Int))))) (x40_law_some : (List (List (Bool × (List (Int × (List Nat) × Int)))))) : (Lp Unit Bool) := ((loopL (m_law_L42 (x38_law_colours_here)) () (x40_law_some ++ ([x39_law_two_here] : List (List (Bool × (List (Int × (List Nat) × Int))))))).then (fun (s68 : Unit) => (Lp.go ())))
def ok_law_34 (x38_law_colours_here : (List Nat)) (x39_law_two_here : (List (Bool × (List (Int × (List Nat) × Int))))) (x40_law_some : (List (List (Bool × (List (Int × (List Nat) × Int)))))) : Prop := ((Sz ((x40_law_some).length + (([x39_law_two_here] : List (List (Bool × (List (Int × (List Nat) × Int)))))).length)) ∧ ((AllL (ok_law_L42 (x38_law_colours_here)) (m_law_L42 (x38_law_colours_here)) () (x40_law_some ++ ([x39_law_two_here] : List (List (Bool × (List (Int × (List Nat) × Int))))))) ∧ True))
def m_law_20 (x23_law_box_here : (List Int)) (x24_law_colours_here : (List Nat)) (x25_law_two_here : (List (Bool × (List (Int × (List Nat) × Int))))) : (Lp Unit Bool) := (let u32 := mapS (fun (s30 : (List Int)) (y27 : Int) => (let t31 := (m__law_bent s30 x24_law_colours_here x25_law_two_here); (t31.1, t31.2))) x23_law_box_here (rng 0 (4 : Int)); (m_law_34 (x24_law_colours_here) (x25_law_two_here) ((([x25_law_two_here, [], (cut x25_law_two_here none (some (1 : Int)))] : List (List (Bool × (List (Int × (List Nat) × Int))))) ++ u32.1))))
def ok_law_20 (x23_law_box_here : (List Int)) (x24_law_colours_here : (List Nat)) (x25_law_two_here : (List (Bool × (List (Int × (List Nat) × Int))))) : Prop := ((RngOk (4 : Int)) ∧ ((Sz ((rng 0 (4 : Int))).length) ∧ ((AllS (fun (s30 : (List Int)) (y27 : Int) => ((ok__law_bent s30 x24_law_colours_here x25_law_two_here) ∧ True)) (fun (s30 : (List Int)) (y27 : Int) => (let t31 := (m__law_bent s30 x24_law_colours_here x25_law_two_here); (t31.1, t31.2))) x23_law_box_here (rng 0 (4 : Int))) ∧ (let u32 := mapS (fun (s30 : (List Int)) (y27 : Int) => (let t31 := (m__law_bent s30 x24_law_colours_here x25_law_two_here); (t31.1, t31.2))) x23_law_box_here (rng 0 (4 : Int)); ((Sz ((([x25_law_two_here, [], (cut x25_law_two_here none (some (1 : Int)))] : List (List (Bool × (List (Int × (List Nat) × Int)))))).length + (u32.1).length)) ∧ (ok_law_34 (x24_law_colours_here) (x25_law_two_here) ((([x25_law_two_here, [], (cut x25_law_two_here none (some (1 : Int)))] : List (List (Bool × (List (Int × (List Nat) × Int))))) ++ u32.1))))))))
def m_law_13 (x16_law_box_here : (List Int)) (x17_law_colours_here : (List Nat)) : (Lp Unit Bool) := (let t19 := (m__law_two x16_law_box_here x17_law_colours_here (4 : Int) (5 : Int)); (m_law_20 (t19.2) (x17_law_colours_here) (t19.1)))
def ok_law_13 (x16_law_box_here : (List Int)) (x17_law_colours_here : (List Nat)) : Prop := ((ok__law_two x16_law_box_here x17_law_colours_here (4 : Int) (5 : Int)) ∧ (let t19 := (m__law_two x16_law_box_here x17_law_colours_here (4 : Int) (5 : Int)); (ok_law_20 (t19.2) (x17_law_colours_here) (t19.1))))
def m_law_6 (x9_law_box_here : (List Int)) : (Lp Unit Bool) := (let t11 := (m__law_take x9_law_box_here (2 : Int)); (let t12 := (m__law_colours t11.2 ((1 : Int) + t11.1)); (m_law_13 (t12.2) (t12.1))))
def ok_law_6 (x9_law_box_here : (List Int)) : Prop := ((ok__law_take x9_law_box_here (2 : Int)) ∧ (let t11 := (m__law_take x9_law_box_here (2 : Int)); ((ok__law_colours t11.2 ((1 : Int) + t11.1)) ∧ (let t12 := (m__law_colours t11.2 ((1 : Int) + t11.1)); (ok_law_13 (t12.2) (t12.1))))))
def m_law_L1 (x5_law_script : (List Int)) (s2 : Unit) (y3 : Int) : (Lp Unit Bool) := (m_law_6 ((m__law_box x5_law_script y3)))
def ok_law_L1 (x5_law_script : (List Int)) (s2 : Unit) (y3 : Int) : Prop := ((ok__law_box x5_law_script y3) ∧ (ok_law_6 ((m__law_box x5_law_script y3))))
def m_law_82  : Bool := true
def ok_law_82  : Prop := True
def m_law (x_law_script : (List Int)) : Bool := ((loopL (m_law_L1 (x_law_script)) () (rng 0 (max (4 : Int) (min ((x_law_script).length : Int) (10 : Int))))).fin (fun (s81 : Unit) => m_law_82))
def ok_law (x_law_script : (List Int)) : Prop := ((RngOk (max (4 : Int) (min ((x_law_script).length : Int) (10 : Int)))) ∧ ((AllL (ok_law_L1 (x_law_script)) (m_law_L1 (x_law_script)) () (rng 0 (max (4 : Int) (min ((x_law_script).length : Int) (10 : Int))))) ∧ ((loopL (m_law_L1 (x_law_script)) () (rng 0 (max (4 : Int) (min ((x_law_script).length : Int) (10 : Int))))).done (fun (s81 : Unit) => ok_law_82))))
end Wk

set_option Elab.async false
set_option linter.all false
set_option maxRecDepth 100000
set_option maxHeartbeats 2000000
namespace Wk
open PySem PySem.Spec PyProof.Rows L2 TL Dn Mt
def r__law_box_19 (x22_law_cell : Int) (x23_law_seed : Int) : Rn (List Int) := (Rn.chk (IxOk (([(0 : Int), x22_law_cell] : List Int)).length (b2z (decide (((10 : Int) ^ Int.toNat (18 : Int)) ≤ x22_law_cell)))) (Rn.pure ([(Dn.get (default : Int) ([(0 : Int), x22_law_cell] : List Int) (b2z (decide (((10 : Int) ^ Int.toNat (18 : Int)) ≤ x22_law_cell)))), x23_law_seed] : List Int)))
theorem e__law_box_19 (x22_law_cell : Int) (x23_law_seed : Int) : r__law_box_19 x22_law_cell x23_law_seed = ⟨ok__law_box_19 x22_law_cell x23_law_seed, m__law_box_19 x22_law_cell x23_law_seed⟩ := by
  unfold r__law_box_19
  with_unfolding_all rfl
def r__law_box_14 (x16_law_k : Int) (x17_law_cell : Int) : Rn (List Int) := (Rn.chk (MulOk (x17_law_cell % (2147483629 : Int)) (48271 : Int)) (Rn.chk (MulOk (40692 : Int) x16_law_k) (r__law_box_19 (x17_law_cell) ((((((x17_law_cell % (2147483629 : Int)) * (48271 : Int)) + ((40692 : Int) * x16_law_k)) % (2147483629 : Int)) + (1 : Int))))))
theorem e__law_box_14 (x16_law_k : Int) (x17_law_cell : Int) : r__law_box_14 x16_law_k x17_law_cell = ⟨ok__law_box_14 x16_law_k x17_law_cell, m__law_box_14 x16_law_k x17_law_cell⟩ := by
  unfold r__law_box_14
  simp only [e__law_box_19]
  with_unfolding_all rfl
def r__law_box_1 (x2_law_script : (List Int)) (x3_law_k : Int) (x4_law_cell : Int) : Rn (List Int) := (Rn.brTF (decide (x3_law_k < ((x2_law_script).length : Int))) (Rn.chk (IxOk (x2_law_script).length x3_law_k) (Rn.pure (Dn.get 0 x2_law_script x3_law_k))) (Rn.brT (decide ((0 : Int) < ((x2_law_script).length : Int))) (Rn.chk ((0:Int) < ((x2_law_script).length : Int)) (Rn.chk (IxOk (x2_law_script).length (x3_law_k % ((x2_law_script).length : Int))) (Rn.chk (MulOk ((Dn.get 0 x2_law_script (x3_law_k % ((x2_law_script).length : Int))) % (2147483629 : Int)) (69623 : Int)) (Rn.pure (x4_law_cell + (((Dn.get 0 x2_law_script (x3_law_k % ((x2_law_script).length : Int))) % (2147483629 : Int)) * (69623 : Int))))))) (Rn.pure x4_law_cell) (fun j10 => (Rn.pure j10))) (fun j12 => (r__law_box_14 (x3_law_k) (j12))))
theorem e__law_box_1 (x2_law_script : (List Int)) (x3_law_k : Int) (x4_law_cell : Int) : r__law_box_1 x2_law_script x3_law_k x4_law_cell = ⟨ok__law_box_1 x2_law_script x3_law_k x4_law_cell, m__law_box_1 x2_law_script x3_law_k x4_law_cell⟩ := by
  unfold r__law_box_1
  simp only [e__law_box_14]
  with_unfolding_all rfl
def r__law_box (x_law_script : (List Int)) (x_law_k : Int) : Rn (List Int) := (Rn.chk (MulOk (7919 : Int) x_law_k) (r__law_box_1 (x_law_script) (x_law_k) ((((7919 : Int) * x_law_k) + (11 : Int)))))
theorem e__law_box (x_law_script : (List Int)) (x_law_k : Int) : r__law_box x_law_script x_law_k = ⟨ok__law_box x_law_script x_law_k, m__law_box x_law_script x_law_k⟩ := by
  unfold r__law_box
  simp only [e__law_box_1]
  with_unfolding_all rfl
def r__law_take_7 (x8_law_box_here : (List Int)) (x10_law_digit : Int) : Rn (Int × List Int) := (Rn.pure (x10_law_digit, x8_law_box_here))
theorem e__law_take_7 (x8_law_box_here : (List Int)) (x10_law_digit : Int) : r__law_take_7 x8_law_box_here x10_law_digit = ⟨ok__law_take_7 x8_law_box_here x10_law_digit, m__law_take_7 x8_law_box_here x10_law_digit⟩ := by
  unfold r__law_take_7
  with_unfolding_all rfl
def r__law_take_2 (x3_law_box_here : (List Int)) (x4_law_many : Int) (x5_law_digit : Int) : Rn (Int × List Int) := (Rn.chk (IxOk (x3_law_box_here).length (0 : Int)) (Rn.chk (DivOk x4_law_many) (Rn.chk (IxOk (x3_law_box_here).length (0 : Int)) (r__law_take_7 (((x3_law_box_here).set (ix (x3_law_box_here).length (0 : Int)) ((Dn.get (default : Int) x3_law_box_here (0 : Int)) / x4_law_many))) (x5_law_digit)))))
theorem e__law_take_2 (x3_law_box_here : (List Int)) (x4_law_many : Int) (x5_law_digit : Int) : r__law_take_2 x3_law_box_here x4_law_many x5_law_digit = ⟨ok__law_take_2 x3_law_box_here x4_law_many x5_law_digit, m__law_take_2 x3_law_box_here x4_law_many x5_law_digit⟩ := by
  unfold r__law_take_2
  simp only [e__law_take_7]
  with_unfolding_all rfl
def r__law_take_22 (x23_law_box_here : (List Int)) (x24_law_many : Int) (x25_law_one : Int) : Rn (Int × List Int) := (Rn.chk (MulOk x25_law_one (2147483647 : Int)) (Rn.chk (IxOk (x23_law_box_here).length (1 : Int)) (Rn.chk ((0:Int) < x24_law_many) (Rn.pure (((((x25_law_one * (2147483647 : Int)) + (Dn.get (default : Int) x23_law_box_here (1 : Int))) / (8191 : Int)) % x24_law_many), x23_law_box_here)))))
theorem e__law_take_22 (x23_law_box_here : (List Int)) (x24_law_many : Int) (x25_law_one : Int) : r__law_take_22 x23_law_box_here x24_law_many x25_law_one = ⟨ok__law_take_22 x23_law_box_here x24_law_many x25_law_one, m__law_take_22 x23_law_box_here x24_law_many x25_law_one⟩ := by
  unfold r__law_take_22
  with_unfolding_all rfl
def r__law_take_17 (x18_law_box_here : (List Int)) (x19_law_many : Int) (x20_law_one : Int) : Rn (Int × List Int) := (Rn.chk (MulOk x20_law_one (48271 : Int)) (Rn.chk (IxOk (x18_law_box_here).length (1 : Int)) (r__law_take_22 (((x18_law_box_here).set (ix (x18_law_box_here).length (1 : Int)) ((((x20_law_one * (48271 : Int)) + (30103 : Int)) % (2147483629 : Int)) + (1 : Int)))) (x19_law_many) (x20_law_one))))
theorem e__law_take_17 (x18_law_box_here : (List Int)) (x19_law_many : Int) (x20_law_one : Int) : r__law_take_17 x18_law_box_here x19_law_many x20_law_one = ⟨ok__law_take_17 x18_law_box_here x19_law_many x20_law_one, m__law_take_17 x18_law_box_here x19_law_many x20_law_one⟩ := by
  unfold r__law_take_17
  simp only [e__law_take_22]
  with_unfolding_all rfl
def r__law_take (x_law_box_here : (List Int)) (x_law_many : Int) : Rn (Int × List Int) := (Rn.chk (IxOk (x_law_box_here).length (0 : Int)) (Rn.ifTF (decide ((0 : Int) < (Dn.get (default : Int) x_law_box_here (0 : Int)))) (Rn.chk (IxOk (x_law_box_here).length (0 : Int)) (Rn.chk ((0:Int) < x_law_many) (r__law_take_2 (x_law_box_here) (x_law_many) (((Dn.get (default : Int) x_law_box_here (0 : Int)) % x_law_many))))) (Rn.chk (IxOk (x_law_box_here).length (1 : Int)) (Rn.chk (MulOk (Dn.get (default : Int) x_law_box_here (1 : Int)) (69623 : Int)) (r__law_take_17 (x_law_box_here) (x_law_many) ((((Dn.get (default : Int) x_law_box_here (1 : Int)) * (69623 : Int)) % (2147483647 : Int))))))))
theorem e__law_take (x_law_box_here : (List Int)) (x_law_many : Int) : r__law_take x_law_box_here x_law_many = ⟨ok__law_take x_law_box_here x_law_many, m__law_take x_law_box_here x_law_many⟩ := by
  unfold r__law_take
  simp only [e__law_take_2, e__law_take_17]
  with_unfolding_all rfl
def r__law_colours_1 (x2_law_box_here : (List Int)) (x3_law_many : Int) (x4_law_left : (List (List Nat))) : Rn ((List Nat) × List Int) := (Rn.chk (RngOk x3_law_many) (Rn.chk (Sz ((rng 0 x3_law_many)).length) (Rn.maps (fun (s9 : ((List Int) × (List (List Nat)))) (y6 : Int) => (Rn.bind (r__law_take s9.1 ((s9.2).length : Int)) (fun t10 => (Rn.chk (IxOk (s9.2).length t10.1) (Rn.chk (Sz (s9.2).length) (Rn.pure ((Dn.get (default : (List Nat)) s9.2 t10.1), (t10.2, ((s9.2).eraseIdx (ix (s9.2).length t10.1)))))))))) (x2_law_box_here, x4_law_left) (rng 0 x3_law_many) (fun u11 => (Rn.chk (Sz (u11.1).length) (Rn.chk (SzJ ([] : List Nat) (sortT .str u11.1)) (Rn.pure ((joinS ([] : List Nat) (sortT .str u11.1)), u11.2.1))))))))
theorem e__law_colours_1 (x2_law_box_here : (List Int)) (x3_law_many : Int) (x4_law_left : (List (List Nat))) : r__law_colours_1 x2_law_box_here x3_law_many x4_law_left = ⟨ok__law_colours_1 x2_law_box_here x3_law_many x4_law_left, m__law_colours_1 x2_law_box_here x3_law_many x4_law_left⟩ := by
  unfold r__law_colours_1
  simp only [e__law_take]
  with_unfolding_all rfl
def r__law_colours (x_law_box_here : (List Int)) (x_law_many : Int) : Rn ((List Nat) × List Int) := (Rn.chk (Sz (([97, 98, 99, 100, 101, 102, 103, 104, 105, 106, 107, 108, 109, 110, 111, 112, 113, 114, 115, 116, 117, 118, 119, 120, 121, 122] : List Nat)).length) (r__law_colours_1 (x_law_box_here) (x_law_many) ((chars ([97, 98, 99, 100, 101, 102, 103, 104, 105, 106, 107, 108, 109, 110, 111, 112, 113, 114, 115, 116, 117, 118, 119, 120, 121, 122] : List Nat)))))
theorem e__law_colours (x_law_box_here : (List Int)) (x_law_many : Int) : r__law_colours x_law_box_here x_law_many = ⟨ok__law_colours x_law_box_here x_law_many, m__law_colours x_law_box_here x_law_many⟩ := by
  unfold r__law_colours
  simp only [e__law_colours_1]
  with_unfolding_all rfl
def r__law_two_47 (x48_law_box_here : (List Int)) (x49_law_colours_here : (List Nat)) (x52_law_many : Int) (x55_law_own : (List (Int × (List Nat) × Int))) (x57_law_way : Int) : Rn ((List Int) × (List (Int × (List Nat) × Int))) := (Rn.chk (Sz (x49_law_colours_here).length) (Rn.bind (r__law_take x48_law_box_here ((x49_law_colours_here).length : Int)) (fun t59 => (Rn.chk (IxOk (x49_law_colours_here).length t59.1) (Rn.chk (Sz (x49_law_colours_here).length) (Rn.bind (r__law_take t59.2 x52_law_many) (fun t60 => (Rn.chk (Sz (x55_law_own).length) (Rn.pure (t60.2, (x55_law_own ++ [(x57_law_way, [Dn.get 0 x49_law_colours_here t59.1], t60.1)])))))))))))
theorem e__law_two_47 (x48_law_box_here : (List Int)) (x49_law_colours_here : (List Nat)) (x52_law_many : Int) (x55_law_own : (List (Int × (List Nat) × Int))) (x57_law_way : Int) : r__law_two_47 x48_law_box_here x49_law_colours_here x52_law_many x55_law_own x57_law_way = ⟨ok__law_two_47 x48_law_box_here x49_law_colours_here x52_law_many x55_law_own x57_law_way, m__law_two_47 x48_law_box_here x49_law_colours_here x52_law_many x55_law_own x57_law_way⟩ := by
  unfold r__law_two_47
  simp only [e__law_take]
  with_unfolding_all rfl
def r__law_two_L36 (x40_law_colours_here : (List Nat)) (x43_law_many : Int) (s37 : ((List Int) × (List (Int × (List Nat) × Int)))) (y38 : Int) : Rn ((List Int) × (List (Int × (List Nat) × Int))) := (Rn.bind (r__law_take s37.1 (3 : Int)) (fun t46 => (Rn.chk (IxOk (([(1 : Int), (1 : Int), (-(1 : Int))] : List Int)).length t46.1) (r__law_two_47 (t46.2) (x40_law_colours_here) (x43_law_many) (s37.2) ((Dn.get (default : Int) ([(1 : Int), (1 : Int), (-(1 : Int))] : List Int) t46.1))))))
theorem e__law_two_L36 (x40_law_colours_here : (List Nat)) (x43_law_many : Int) (s37 : ((List Int) × (List (Int × (List Nat) × Int)))) (y38 : Int) : r__law_two_L36 x40_law_colours_here x43_law_many s37 y38 = ⟨ok__law_two_L36 x40_law_colours_here x43_law_many s37 y38, m__law_two_L36 x40_law_colours_here x43_law_many s37 y38⟩ := by
  unfold r__law_two_L36
  simp only [e__law_take, e__law_two_47]
  with_unfolding_all rfl
def r__law_two_66 (x67_law_box_here : (List Int)) (x72_law_found : (List (Bool × (List (Int × (List Nat) × Int))))) (x74_law_own : (List (Int × (List Nat) × Int))) : Rn ((List Int) × (List (Bool × (List (Int × (List Nat) × Int))))) := (Rn.bind (r__law_take x67_law_box_here (3 : Int)) (fun t76 => (Rn.chk (Sz (x72_law_found).length) (Rn.pure (t76.2, (x72_law_found ++ [((decide (t76.1 = (0 : Int))), x74_law_own)]))))))
theorem e__law_two_66 (x67_law_box_here : (List Int)) (x72_law_found : (List (Bool × (List (Int × (List Nat) × Int))))) (x74_law_own : (List (Int × (List Nat) × Int))) : r__law_two_66 x67_law_box_here x72_law_found x74_law_own = ⟨ok__law_two_66 x67_law_box_here x72_law_found x74_law_own, m__law_two_66 x67_law_box_here x72_law_found x74_law_own⟩ := by
  unfold r__law_two_66
  simp only [e__law_take]
  with_unfolding_all rfl
def r__law_two_25 (x26_law_box_here : (List Int)) (x27_law_colours_here : (List Nat)) (x29_law_goes : Int) (x30_law_many : Int) (x31_law_found : (List (Bool × (List (Int × (List Nat) × Int))))) (x33_law_own : (List (Int × (List Nat) × Int))) : Rn ((List Int) × (List (Bool × (List (Int × (List Nat) × Int))))) := (Rn.bind (r__law_take x26_law_box_here (x29_law_goes + (1 : Int))) (fun t35 => (Rn.chk (RngOk t35.1) (Rn.fold (fun (s37 : ((List Int) × (List (Int × (List Nat) × Int)))) (y38 : Int) => (r__law_two_L36 (x27_law_colours_here) (x30_law_many) s37 y38)) (t35.2, x33_law_own) (rng 0 t35.1) (fun l65 => (r__law_two_66 (l65.1) (x31_law_found) (l65.2)))))))
theorem e__law_two_25 (x26_law_box_here : (List Int)) (x27_law_colours_here : (List Nat)) (x29_law_goes : Int) (x30_law_many : Int) (x31_law_found : (List (Bool × (List (Int × (List Nat) × Int))))) (x33_law_own : (List (Int × (List Nat) × Int))) : r__law_two_25 x26_law_box_here x27_law_colours_here x29_law_goes x30_law_many x31_law_found x33_law_own = ⟨ok__law_two_25 x26_law_box_here x27_law_colours_here x29_law_goes x30_law_many x31_law_found x33_law_own, m__law_two_25 x26_law_box_here x27_law_colours_here x29_law_goes x30_law_many x31_law_found x33_law_own⟩ := by
  unfold r__law_two_25
  simp only [e__law_take, e__law_two_L36, e__law_two_66]
  with_unfolding_all rfl
def r__law_two_L17 (x21_law_colours_here : (List Nat)) (x23_law_goes : Int) (x24_law_many : Int) (s18 : ((List Int) × (List (Bool × (List (Int × (List Nat) × Int)))))) (y19 : Int) : Rn ((List Int) × (List (Bool × (List (Int × (List Nat) × Int))))) := (r__law_two_25 (s18.1) (x21_law_colours_here) (x23_law_goes) (x24_law_many) (s18.2) (([] : List (Int × (List Nat) × Int))))
theorem e__law_two_L17 (x21_law_colours_here : (List Nat)) (x23_law_goes : Int) (x24_law_many : Int) (s18 : ((List Int) × (List (Bool × (List (Int × (List Nat) × Int)))))) (y19 : Int) : r__law_two_L17 x21_law_colours_here x23_law_goes x24_law_many s18 y19 = ⟨ok__law_two_L17 x21_law_colours_here x23_law_goes x24_law_many s18 y19, m__law_two_L17 x21_law_colours_here x23_law_goes x24_law_many s18 y19⟩ := by
  unfold r__law_two_L17
  simp only [e__law_two_25]
  with_unfolding_all rfl
def r__law_two_84 (x85_law_box_here : (List Int)) (x90_law_found : (List (Bool × (List (Int × (List Nat) × Int))))) : Rn ((List (Bool × (List (Int × (List Nat) × Int)))) × List Int) := (Rn.pure (x90_law_found, x85_law_box_here))
theorem e__law_two_84 (x85_law_box_here : (List Int)) (x90_law_found : (List (Bool × (List (Int × (List Nat) × Int))))) : r__law_two_84 x85_law_box_here x90_law_found = ⟨ok__law_two_84 x85_law_box_here x90_law_found, m__law_two_84 x85_law_box_here x90_law_found⟩ := by
  unfold r__law_two_84
  with_unfolding_all rfl
def r__law_two_9 (x10_law_box_here : (List Int)) (x11_law_colours_here : (List Nat)) (x13_law_goes : Int) (x14_law_many : Int) (x15_law_found : (List (Bool × (List (Int × (List Nat) × Int))))) : Rn ((List (Bool × (List (Int × (List Nat) × Int)))) × List Int) := (Rn.chk (RngOk x14_law_many) (Rn.fold (fun (s18 : ((List Int) × (List (Bool × (List (Int × (List Nat) × Int)))))) (y19 : Int) => (r__law_two_L17 (x11_law_colours_here) (x13_law_goes) (x14_law_many) s18 y19)) (x10_law_box_here, x15_law_found) (rng 0 x14_law_many) (fun l83 => (r__law_two_84 (l83.1) (l83.2)))))
theorem e__law_two_9 (x10_law_box_here : (List Int)) (x11_law_colours_here : (List Nat)) (x13_law_goes : Int) (x14_law_many : Int) (x15_law_found : (List (Bool × (List (Int × (List Nat) × Int))))) : r__law_two_9 x10_law_box_here x11_law_colours_here x13_law_goes x14_law_many x15_law_found = ⟨ok__law_two_9 x10_law_box_here x11_law_colours_here x13_law_goes x14_law_many x15_law_found, m__law_two_9 x10_law_box_here x11_law_colours_here x13_law_goes x14_law_many x15_law_found⟩ := by
  unfold r__law_two_9
  simp only [e__law_two_L17, e__law_two_84]
  with_unfolding_all rfl
def r__law_two_2 (x3_law_box_here : (List Int)) (x4_law_colours_here : (List Nat)) (x6_law_goes : Int) (x7_law_many : Int) : Rn ((List (Bool × (List (Int × (List Nat) × Int)))) × List Int) := (r__law_two_9 (x3_law_box_here) (x4_law_colours_here) (x6_law_goes) (x7_law_many) (([] : List (Bool × (List (Int × (List Nat) × Int))))))
theorem e__law_two_2 (x3_law_box_here : (List Int)) (x4_law_colours_here : (List Nat)) (x6_law_goes : Int) (x7_law_many : Int) : r__law_two_2 x3_law_box_here x4_law_colours_here x6_law_goes x7_law_many = ⟨ok__law_two_2 x3_law_box_here x4_law_colours_here x6_law_goes x7_law_many, m__law_two_2 x3_law_box_here x4_law_colours_here x6_law_goes x7_law_many⟩ := by
  unfold r__law_two_2
  simp only [e__law_two_9]
  with_unfolding_all rfl
def r__law_two (x_law_box_here : (List Int)) (x_law_colours_here : (List Nat)) (x_law_rows : Int) (x_law_goes : Int) : Rn ((List (Bool × (List (Int × (List Nat) × Int)))) × List Int) := (Rn.bind (r__law_take x_law_box_here x_law_rows) (fun t1 => (r__law_two_2 (t1.2) (x_law_colours_here) (x_law_goes) (((1 : Int) + t1.1)))))
theorem e__law_two (x_law_box_here : (List Int)) (x_law_colours_here : (List Nat)) (x_law_rows : Int) (x_law_goes : Int) : r__law_two x_law_box_here x_law_colours_here x_law_rows x_law_goes = ⟨ok__law_two x_law_box_here x_law_colours_here x_law_rows x_law_goes, m__law_two x_law_box_here x_law_colours_here x_law_rows x_law_goes⟩ := by
  unfold r__law_two
  simp only [e__law_take, e__law_two_2]
  with_unfolding_all rfl
def r_is_going_2 (x3_colours : (List Nat)) (x4_two : (List (Bool × (List (Int × (List Nat) × Int))))) (x6_way : Int) (x7_colour : (List Nat)) (x8_row : Int) : Rn Bool := (Rn.chk ((memD x6_way [(1 : Int), (-(1 : Int))]) = true → ((Sz (x7_colour).length) ∧ True)) (Rn.pure ((memD x6_way [(1 : Int), (-(1 : Int))]) && ((decide (((x7_colour).length : Int) = (1 : Int))) && (((sfind x3_colours x7_colour).isSome) && ((decide ((0 : Int) ≤ x8_row)) && (decide (x8_row < ((x4_two).length : Int)))))))))
theorem e_is_going_2 (x3_colours : (List Nat)) (x4_two : (List (Bool × (List (Int × (List Nat) × Int))))) (x6_way : Int) (x7_colour : (List Nat)) (x8_row : Int) : r_is_going_2 x3_colours x4_two x6_way x7_colour x8_row = ⟨ok_is_going_2 x3_colours x4_two x6_way x7_colour x8_row, m_is_going_2 x3_colours x4_two x6_way x7_colour x8_row⟩ := by
  unfold r_is_going_2
  with_unfolding_all rfl
def r_is_going (x_colours : (List Nat)) (x_two : (List (Bool × (List (Int × (List Nat) × Int))))) (x_going : (Int × (List Nat) × Int)) : Rn Bool := (let t1 := x_going; (r_is_going_2 (x_colours) (x_two) ((t1.1)) ((t1.2.1)) ((t1.2.2))))
theorem e_is_going (x_colours : (List Nat)) (x_two : (List (Bool × (List (Int × (List Nat) × Int))))) (x_going : (Int × (List Nat) × Int)) : r_is_going x_colours x_two x_going = ⟨ok_is_going x_colours x_two x_going, m_is_going x_colours x_two x_going⟩ := by
  unfold r_is_going
  simp only [e_is_going_2]
  with_unfolding_all rfl
def r_is_two_way_L6  (s7 : (List (Int × (List Nat) × Int))) (y8 : (Bool × (List (Int × (List Nat) × Int)))) : Rn (List (Int × (List Nat) × Int)) := (Rn.chk (Sz ((s7).length + ((y8.2)).length)) (Rn.pure (s7 ++ (y8.2))))
theorem e_is_two_way_L6  (s7 : (List (Int × (List Nat) × Int))) (y8 : (Bool × (List (Int × (List Nat) × Int)))) : r_is_two_way_L6 s7 y8 = ⟨ok_is_two_way_L6 s7 y8, m_is_two_way_L6 s7 y8⟩ := by
  unfold r_is_two_way_L6
  with_unfolding_all rfl
def r_is_two_way_14 (x15_colours : (List Nat)) (x16_two : (List (Bool × (List (Int × (List Nat) × Int))))) (x17_every : (List (Int × (List Nat) × Int))) : Rn Bool := (Rn.chk ((decide ((0 : Int) < ((x16_two).length : Int))) = true → ((Sz (x17_every).length) ∧ ((∀ y20 ∈ x17_every, ((ok_is_going x15_colours x16_two y20) ∧ True)) ∧ True))) (Rn.pure ((decide ((0 : Int) < ((x16_two).length : Int))) && (((List.map (fun (y20 : (Int × (List Nat) × Int)) => (m_is_going x15_colours x16_two y20)) x17_every)).all id))))
theorem e_is_two_way_14 (x15_colours : (List Nat)) (x16_two : (List (Bool × (List (Int × (List Nat) × Int))))) (x17_every : (List (Int × (List Nat) × Int))) : r_is_two_way_14 x15_colours x16_two x17_every = ⟨ok_is_two_way_14 x15_colours x16_two x17_every, m_is_two_way_14 x15_colours x16_two x17_every⟩ := by
  unfold r_is_two_way_14
  with_unfolding_all rfl
def r_is_two_way_1 (x2_colours : (List Nat)) (x3_two : (List (Bool × (List (Int × (List Nat) × Int))))) (x4_every : (List (Int × (List Nat) × Int))) : Rn Bool := (Rn.fold (fun (s7 : (List (Int × (List Nat) × Int))) (y8 : (Bool × (List (Int × (List Nat) × Int)))) => (r_is_two_way_L6  s7 y8)) x4_every x3_two (fun l13 => (r_is_two_way_14 (x2_colours) (x3_two) (l13))))
theorem e_is_two_way_1 (x2_colours : (List Nat)) (x3_two : (List (Bool × (List (Int × (List Nat) × Int))))) (x4_every : (List (Int × (List Nat) × Int))) : r_is_two_way_1 x2_colours x3_two x4_every = ⟨ok_is_two_way_1 x2_colours x3_two x4_every, m_is_two_way_1 x2_colours x3_two x4_every⟩ := by
  unfold r_is_two_way_1
  simp only [e_is_two_way_L6, e_is_two_way_14]
  with_unfolding_all rfl
def r_is_two_way (x_colours : (List Nat)) (x_two : (List (Bool × (List (Int × (List Nat) × Int))))) : Rn Bool := (r_is_two_way_1 (x_colours) (x_two) (([] : List (Int × (List Nat) × Int))))
theorem e_is_two_way (x_colours : (List Nat)) (x_two : (List (Bool × (List (Int × (List Nat) × Int))))) : r_is_two_way x_colours x_two = ⟨ok_is_two_way x_colours x_two, m_is_two_way x_colours x_two⟩ := by
  unfold r_is_two_way
  simp only [e_is_two_way_1]
  with_unfolding_all rfl
def r__law_bent_76 (x77_law_box_here : (List Int)) (x78_law_colours_here : (List Nat)) (x85_law_colour : (List Nat)) (x88_law_rest : (List (List Nat))) : Rn ((List Int) × (List Nat)) := (Rn.chk (Sz ((x85_law_colour).length + (x85_law_colour).length)) (Rn.bind (r__law_take x77_law_box_here ((x88_law_rest).length : Int)) (fun t90 => (Rn.chk (IxOk (x88_law_rest).length t90.1) (Rn.bind (r__law_take t90.2 (5 : Int)) (fun t91 => (Rn.chk (IxOk (([([] : List Nat), x78_law_colours_here, (x85_law_colour ++ x85_law_colour), (Dn.get (default : (List Nat)) x88_law_rest t90.1), ([65] : List Nat)] : List (List Nat))).length t91.1) (Rn.pure (t91.2, (Dn.get (default : (List Nat)) ([([] : List Nat), x78_law_colours_here, (x85_law_colour ++ x85_law_colour), (Dn.get (default : (List Nat)) x88_law_rest t90.1), ([65] : List Nat)] : List (List Nat)) t91.1))))))))))
theorem e__law_bent_76 (x77_law_box_here : (List Int)) (x78_law_colours_here : (List Nat)) (x85_law_colour : (List Nat)) (x88_law_rest : (List (List Nat))) : r__law_bent_76 x77_law_box_here x78_law_colours_here x85_law_colour x88_law_rest = ⟨ok__law_bent_76 x77_law_box_here x78_law_colours_here x85_law_colour x88_law_rest, m__law_bent_76 x77_law_box_here x78_law_colours_here x85_law_colour x88_law_rest⟩ := by
  unfold r__law_bent_76
  simp only [e__law_take]
  with_unfolding_all rfl
def r__law_bent_128 (x129_law_box_here : (List Int)) (x131_law_two_here : (List (Bool × (List (Int × (List Nat) × Int))))) (x132_law_k : Int) (x133_law_mark : Bool) (x140_law_other : (List (Int × (List Nat) × Int))) : Rn ((List (Bool × (List (Int × (List Nat) × Int)))) × List Int) := (Rn.chk (Sz (((cut x131_law_two_here none (some x132_law_k))).length + ([(x133_law_mark, x140_law_other)]).length)) (Rn.chk (Sz ((((cut x131_law_two_here none (some x132_law_k)) ++ [(x133_law_mark, x140_law_other)])).length + ((cut x131_law_two_here (some (x132_law_k + (1 : Int))) none)).length)) (Rn.pure ((((cut x131_law_two_here none (some x132_law_k)) ++ [(x133_law_mark, x140_law_other)]) ++ (cut x131_law_two_here (some (x132_law_k + (1 : Int))) none)), x129_law_box_here))))
theorem e__law_bent_128 (x129_law_box_here : (List Int)) (x131_law_two_here : (List (Bool × (List (Int × (List Nat) × Int))))) (x132_law_k : Int) (x133_law_mark : Bool) (x140_law_other : (List (Int × (List Nat) × Int))) : r__law_bent_128 x129_law_box_here x131_law_two_here x132_law_k x133_law_mark x140_law_other = ⟨ok__law_bent_128 x129_law_box_here x131_law_two_here x132_law_k x133_law_mark x140_law_other, m__law_bent_128 x129_law_box_here x131_law_two_here x132_law_k x133_law_mark x140_law_other⟩ := by
  unfold r__law_bent_128
  with_unfolding_all rfl
def r__law_bent_115 (x116_law_box_here : (List Int)) (x118_law_two_here : (List (Bool × (List (Int × (List Nat) × Int))))) (x119_law_k : Int) (x120_law_mark : Bool) (x121_law_goes : (List (Int × (List Nat) × Int))) (x122_law_at : Int) (x123_law_way : Int) (x124_law_colour : (List Nat)) (x125_law_goal : Int) : Rn ((List (Bool × (List (Int × (List Nat) × Int)))) × List Int) := (Rn.chk (Sz (((cut x121_law_goes none (some x122_law_at))).length + ([(x123_law_way, x124_law_colour, x125_law_goal)]).length)) (Rn.chk (Sz ((((cut x121_law_goes none (some x122_law_at)) ++ [(x123_law_way, x124_law_colour, x125_law_goal)])).length + ((cut x121_law_goes (some (x122_law_at + (1 : Int))) none)).length)) (r__law_bent_128 (x116_law_box_here) (x118_law_two_here) (x119_law_k) (x120_law_mark) ((((cut x121_law_goes none (some x122_law_at)) ++ [(x123_law_way, x124_law_colour, x125_law_goal)]) ++ (cut x121_law_goes (some (x122_law_at + (1 : Int))) none))))))
theorem e__law_bent_115 (x116_law_box_here : (List Int)) (x118_law_two_here : (List (Bool × (List (Int × (List Nat) × Int))))) (x119_law_k : Int) (x120_law_mark : Bool) (x121_law_goes : (List (Int × (List Nat) × Int))) (x122_law_at : Int) (x123_law_way : Int) (x124_law_colour : (List Nat)) (x125_law_goal : Int) : r__law_bent_115 x116_law_box_here x118_law_two_here x119_law_k x120_law_mark x121_law_goes x122_law_at x123_law_way x124_law_colour x125_law_goal = ⟨ok__law_bent_115 x116_law_box_here x118_law_two_here x119_law_k x120_law_mark x121_law_goes x122_law_at x123_law_way x124_law_colour x125_law_goal, m__law_bent_115 x116_law_box_here x118_law_two_here x119_law_k x120_law_mark x121_law_goes x122_law_at x123_law_way x124_law_colour x125_law_goal⟩ := by
  unfold r__law_bent_115
  simp only [e__law_bent_128]
  with_unfolding_all rfl
def r__law_bent_97 (x98_law_box_here : (List Int)) (x100_law_two_here : (List (Bool × (List (Int × (List Nat) × Int))))) (x101_law_k : Int) (x102_law_mark : Bool) (x103_law_goes : (List (Int × (List Nat) × Int))) (x104_law_at : Int) (x105_law_way : Int) (x106_law_colour : (List Nat)) (x107_law_goal : Int) (x108_law_kind : Int) : Rn ((List (Bool × (List (Int × (List Nat) × Int)))) × List Int) := (Rn.brT (decide ((1 : Int) < x108_law_kind)) (Rn.bind (r__law_take x98_law_box_here (5 : Int)) (fun t111 => (Rn.chk (IxOk (([((x100_law_two_here).length : Int), (-(1 : Int)), (((x100_law_two_here).length : Int) - (1 : Int)), ((10 : Int) ^ Int.toNat (20 : Int)), (-((x100_law_two_here).length : Int))] : List Int)).length t111.1) (Rn.pure (t111.2, (Dn.get (default : Int) ([((x100_law_two_here).length : Int), (-(1 : Int)), (((x100_law_two_here).length : Int) - (1 : Int)), ((10 : Int) ^ Int.toNat (20 : Int)), (-((x100_law_two_here).length : Int))] : List Int) t111.1)))))) (Rn.pure (x98_law_box_here, x107_law_goal)) (fun j113 => (r__law_bent_115 (j113.1) (x100_law_two_here) (x101_law_k) (x102_law_mark) (x103_law_goes) (x104_law_at) (x105_law_way) (x106_law_colour) (j113.2))))
theorem e__law_bent_97 (x98_law_box_here : (List Int)) (x100_law_two_here : (List (Bool × (List (Int × (List Nat) × Int))))) (x101_law_k : Int) (x102_law_mark : Bool) (x103_law_goes : (List (Int × (List Nat) × Int))) (x104_law_at : Int) (x105_law_way : Int) (x106_law_colour : (List Nat)) (x107_law_goal : Int) (x108_law_kind : Int) : r__law_bent_97 x98_law_box_here x100_law_two_here x101_law_k x102_law_mark x103_law_goes x104_law_at x105_law_way x106_law_colour x107_law_goal x108_law_kind = ⟨ok__law_bent_97 x98_law_box_here x100_law_two_here x101_law_k x102_law_mark x103_law_goes x104_law_at x105_law_way x106_law_colour x107_law_goal x108_law_kind, m__law_bent_97 x98_law_box_here x100_law_two_here x101_law_k x102_law_mark x103_law_goes x104_law_at x105_law_way x106_law_colour x107_law_goal x108_law_kind⟩ := by
  unfold r__law_bent_97
  simp only [e__law_take, e__law_bent_115]
  with_unfolding_all rfl
def r__law_bent_59 (x60_law_box_here : (List Int)) (x61_law_colours_here : (List Nat)) (x62_law_two_here : (List (Bool × (List (Int × (List Nat) × Int))))) (x63_law_k : Int) (x64_law_mark : Bool) (x65_law_goes : (List (Int × (List Nat) × Int))) (x66_law_at : Int) (x67_law_way : Int) (x68_law_colour : (List Nat)) (x69_law_goal : Int) (x70_law_kind : Int) : Rn ((List (Bool × (List (Int × (List Nat) × Int)))) × List Int) := (Rn.brT (decide (x70_law_kind = (1 : Int))) (Rn.chk (Sz ((chars ([97, 98, 99, 100, 101, 102, 103, 104, 105, 106, 107, 108, 109, 110, 111, 112, 113, 114, 115, 116, 117, 118, 119, 120, 121, 122] : List Nat))).length) (r__law_bent_76 (x60_law_box_here) (x61_law_colours_here) (x68_law_colour) (((List.filter (fun (y73 : (List Nat)) => (!(sfind x61_law_colours_here y73).isSome)) (chars ([97, 98, 99, 100, 101, 102, 103, 104, 105, 106, 107, 108, 109, 110, 111, 112, 113, 114, 115, 116, 117, 118, 119, 120, 121, 122] : List Nat))).map (fun (y73 : (List Nat)) => y73))))) (Rn.pure (x60_law_box_here, x68_law_colour)) (fun j95 => (r__law_bent_97 (j95.1) (x62_law_two_here) (x63_law_k) (x64_law_mark) (x65_law_goes) (x66_law_at) (x67_law_way) (j95.2) (x69_law_goal) (x70_law_kind))))
theorem e__law_bent_59 (x60_law_box_here : (List Int)) (x61_law_colours_here : (List Nat)) (x62_law_two_here : (List (Bool × (List (Int × (List Nat) × Int))))) (x63_law_k : Int) (x64_law_mark : Bool) (x65_law_goes : (List (Int × (List Nat) × Int))) (x66_law_at : Int) (x67_law_way : Int) (x68_law_colour : (List Nat)) (x69_law_goal : Int) (x70_law_kind : Int) : r__law_bent_59 x60_law_box_here x61_law_colours_here x62_law_two_here x63_law_k x64_law_mark x65_law_goes x66_law_at x67_law_way x68_law_colour x69_law_goal x70_law_kind = ⟨ok__law_bent_59 x60_law_box_here x61_law_colours_here x62_law_two_here x63_law_k x64_law_mark x65_law_goes x66_law_at x67_law_way x68_law_colour x69_law_goal x70_law_kind, m__law_bent_59 x60_law_box_here x61_law_colours_here x62_law_two_here x63_law_k x64_law_mark x65_law_goes x66_law_at x67_law_way x68_law_colour x69_law_goal x70_law_kind⟩ := by
  unfold r__law_bent_59
  simp only [e__law_bent_76, e__law_bent_97]
  with_unfolding_all rfl
def r__law_bent_41 (x42_law_box_here : (List Int)) (x43_law_colours_here : (List Nat)) (x44_law_two_here : (List (Bool × (List (Int × (List Nat) × Int))))) (x45_law_k : Int) (x46_law_mark : Bool) (x47_law_goes : (List (Int × (List Nat) × Int))) (x48_law_at : Int) (x49_law_way : Int) (x50_law_colour : (List Nat)) (x51_law_goal : Int) (x52_law_kind : Int) : Rn ((List (Bool × (List (Int × (List Nat) × Int)))) × List Int) := (Rn.brT (decide (x52_law_kind = (0 : Int))) (Rn.bind (r__law_take x42_law_box_here (6 : Int)) (fun t55 => (Rn.chk (IxOk (([(0 : Int), (2 : Int), (-(2 : Int)), (1 : Int), (-(1 : Int)), ((10 : Int) ^ Int.toNat (20 : Int))] : List Int)).length t55.1) (Rn.pure (t55.2, (Dn.get (default : Int) ([(0 : Int), (2 : Int), (-(2 : Int)), (1 : Int), (-(1 : Int)), ((10 : Int) ^ Int.toNat (20 : Int))] : List Int) t55.1)))))) (Rn.pure (x42_law_box_here, x49_law_way)) (fun j57 => (r__law_bent_59 (j57.1) (x43_law_colours_here) (x44_law_two_here) (x45_law_k) (x46_law_mark) (x47_law_goes) (x48_law_at) (j57.2) (x50_law_colour) (x51_law_goal) (x52_law_kind))))
theorem e__law_bent_41 (x42_law_box_here : (List Int)) (x43_law_colours_here : (List Nat)) (x44_law_two_here : (List (Bool × (List (Int × (List Nat) × Int))))) (x45_law_k : Int) (x46_law_mark : Bool) (x47_law_goes : (List (Int × (List Nat) × Int))) (x48_law_at : Int) (x49_law_way : Int) (x50_law_colour : (List Nat)) (x51_law_goal : Int) (x52_law_kind : Int) : r__law_bent_41 x42_law_box_here x43_law_colours_here x44_law_two_here x45_law_k x46_law_mark x47_law_goes x48_law_at x49_law_way x50_law_colour x51_law_goal x52_law_kind = ⟨ok__law_bent_41 x42_law_box_here x43_law_colours_here x44_law_two_here x45_law_k x46_law_mark x47_law_goes x48_law_at x49_law_way x50_law_colour x51_law_goal x52_law_kind, m__law_bent_41 x42_law_box_here x43_law_colours_here x44_law_two_here x45_law_k x46_law_mark x47_law_goes x48_law_at x49_law_way x50_law_colour x51_law_goal x52_law_kind⟩ := by
  unfold r__law_bent_41
  simp only [e__law_take, e__law_bent_59]
  with_unfolding_all rfl
def r__law_bent_28 (x29_law_box_here : (List Int)) (x30_law_colours_here : (List Nat)) (x31_law_two_here : (List (Bool × (List (Int × (List Nat) × Int))))) (x32_law_k : Int) (x33_law_mark : Bool) (x34_law_goes : (List (Int × (List Nat) × Int))) (x35_law_at : Int) (x36_law_way : Int) (x37_law_colour : (List Nat)) (x38_law_goal : Int) : Rn ((List (Bool × (List (Int × (List Nat) × Int)))) × List Int) := (Rn.bind (r__law_take x29_law_box_here (4 : Int)) (fun t40 => (r__law_bent_41 (t40.2) (x30_law_colours_here) (x31_law_two_here) (x32_law_k) (x33_law_mark) (x34_law_goes) (x35_law_at) (x36_law_way) (x37_law_colour) (x38_law_goal) (t40.1))))
theorem e__law_bent_28 (x29_law_box_here : (List Int)) (x30_law_colours_here : (List Nat)) (x31_law_two_here : (List (Bool × (List (Int × (List Nat) × Int))))) (x32_law_k : Int) (x33_law_mark : Bool) (x34_law_goes : (List (Int × (List Nat) × Int))) (x35_law_at : Int) (x36_law_way : Int) (x37_law_colour : (List Nat)) (x38_law_goal : Int) : r__law_bent_28 x29_law_box_here x30_law_colours_here x31_law_two_here x32_law_k x33_law_mark x34_law_goes x35_law_at x36_law_way x37_law_colour x38_law_goal = ⟨ok__law_bent_28 x29_law_box_here x30_law_colours_here x31_law_two_here x32_law_k x33_law_mark x34_law_goes x35_law_at x36_law_way x37_law_colour x38_law_goal, m__law_bent_28 x29_law_box_here x30_law_colours_here x31_law_two_here x32_law_k x33_law_mark x34_law_goes x35_law_at x36_law_way x37_law_colour x38_law_goal⟩ := by
  unfold r__law_bent_28
  simp only [e__law_take, e__law_bent_41]
  with_unfolding_all rfl
def r__law_bent_18 (x19_law_box_here : (List Int)) (x20_law_colours_here : (List Nat)) (x21_law_two_here : (List (Bool × (List (Int × (List Nat) × Int))))) (x22_law_k : Int) (x23_law_mark : Bool) (x24_law_goes : (List (Int × (List Nat) × Int))) (x25_law_at : Int) : Rn ((List (Bool × (List (Int × (List Nat) × Int)))) × List Int) := (Rn.chk (IxOk (x20_law_colours_here).length (0 : Int)) (Rn.chk (Sz (x20_law_colours_here).length) (Rn.chk (Sz ((x24_law_goes).length + ([((1 : Int), [Dn.get 0 x20_law_colours_here (0 : Int)], (0 : Int))]).length)) (Rn.chk (IxOk ((x24_law_goes ++ [((1 : Int), [Dn.get 0 x20_law_colours_here (0 : Int)], (0 : Int))])).length x25_law_at) (let t27 := (Dn.get (default : (Int × (List Nat) × Int)) (x24_law_goes ++ [((1 : Int), [Dn.get 0 x20_law_colours_here (0 : Int)], (0 : Int))]) x25_law_at); (r__law_bent_28 (x19_law_box_here) (x20_law_colours_here) (x21_law_two_here) (x22_law_k) (x23_law_mark) (x24_law_goes) (x25_law_at) ((t27.1)) ((t27.2.1)) ((t27.2.2))))))))
theorem e__law_bent_18 (x19_law_box_here : (List Int)) (x20_law_colours_here : (List Nat)) (x21_law_two_here : (List (Bool × (List (Int × (List Nat) × Int))))) (x22_law_k : Int) (x23_law_mark : Bool) (x24_law_goes : (List (Int × (List Nat) × Int))) (x25_law_at : Int) : r__law_bent_18 x19_law_box_here x20_law_colours_here x21_law_two_here x22_law_k x23_law_mark x24_law_goes x25_law_at = ⟨ok__law_bent_18 x19_law_box_here x20_law_colours_here x21_law_two_here x22_law_k x23_law_mark x24_law_goes x25_law_at, m__law_bent_18 x19_law_box_here x20_law_colours_here x21_law_two_here x22_law_k x23_law_mark x24_law_goes x25_law_at⟩ := by
  unfold r__law_bent_18
  simp only [e__law_bent_28]
  with_unfolding_all rfl
def r__law_bent_9 (x10_law_box_here : (List Int)) (x11_law_colours_here : (List Nat)) (x12_law_two_here : (List (Bool × (List (Int × (List Nat) × Int))))) (x13_law_k : Int) (x14_law_mark : Bool) (x15_law_goes : (List (Int × (List Nat) × Int))) : Rn ((List (Bool × (List (Int × (List Nat) × Int)))) × List Int) := (Rn.bind (r__law_take x10_law_box_here (min (((x15_law_goes).length : Int) + (1 : Int)) (5 : Int))) (fun t17 => (r__law_bent_18 (t17.2) (x11_law_colours_here) (x12_law_two_here) (x13_law_k) (x14_law_mark) (x15_law_goes) (t17.1))))
theorem e__law_bent_9 (x10_law_box_here : (List Int)) (x11_law_colours_here : (List Nat)) (x12_law_two_here : (List (Bool × (List (Int × (List Nat) × Int))))) (x13_law_k : Int) (x14_law_mark : Bool) (x15_law_goes : (List (Int × (List Nat) × Int))) : r__law_bent_9 x10_law_box_here x11_law_colours_here x12_law_two_here x13_law_k x14_law_mark x15_law_goes = ⟨ok__law_bent_9 x10_law_box_here x11_law_colours_here x12_law_two_here x13_law_k x14_law_mark x15_law_goes, m__law_bent_9 x10_law_box_here x11_law_colours_here x12_law_two_here x13_law_k x14_law_mark x15_law_goes⟩ := by
  unfold r__law_bent_9
  simp only [e__law_take, e__law_bent_18]
  with_unfolding_all rfl
def r__law_bent_2 (x3_law_box_here : (List Int)) (x4_law_colours_here : (List Nat)) (x5_law_two_here : (List (Bool × (List (Int × (List Nat) × Int))))) (x6_law_k : Int) : Rn ((List (Bool × (List (Int × (List Nat) × Int)))) × List Int) := (Rn.chk (IxOk (x5_law_two_here).length x6_law_k) (let t8 := (Dn.get (default : (Bool × (List (Int × (List Nat) × Int)))) x5_law_two_here x6_law_k); (r__law_bent_9 (x3_law_box_here) (x4_law_colours_here) (x5_law_two_here) (x6_law_k) ((t8.1)) ((t8.2)))))
theorem e__law_bent_2 (x3_law_box_here : (List Int)) (x4_law_colours_here : (List Nat)) (x5_law_two_here : (List (Bool × (List (Int × (List Nat) × Int))))) (x6_law_k : Int) : r__law_bent_2 x3_law_box_here x4_law_colours_here x5_law_two_here x6_law_k = ⟨ok__law_bent_2 x3_law_box_here x4_law_colours_here x5_law_two_here x6_law_k, m__law_bent_2 x3_law_box_here x4_law_colours_here x5_law_two_here x6_law_k⟩ := by
  unfold r__law_bent_2
  simp only [e__law_bent_9]
  with_unfolding_all rfl
def r__law_bent (x_law_box_here : (List Int)) (x_law_colours_here : (List Nat)) (x_law_two_here : (List (Bool × (List (Int × (List Nat) × Int))))) : Rn ((List (Bool × (List (Int × (List Nat) × Int)))) × List Int) := (Rn.bind (r__law_take x_law_box_here ((x_law_two_here).length : Int)) (fun t1 => (r__law_bent_2 (t1.2) (x_law_colours_here) (x_law_two_here) (t1.1))))
theorem e__law_bent (x_law_box_here : (List Int)) (x_law_colours_here : (List Nat)) (x_law_two_here : (List (Bool × (List (Int × (List Nat) × Int))))) : r__law_bent x_law_box_here x_law_colours_here x_law_two_here = ⟨ok__law_bent x_law_box_here x_law_colours_here x_law_two_here, m__law_bent x_law_box_here x_law_colours_here x_law_two_here⟩ := by
  unfold r__law_bent
  simp only [e__law_take, e__law_bent_2]
  with_unfolding_all rfl
def r__law_due_L7 (x11_law_colours_here : (List Nat)) (x12_law_two_here : (List (Bool × (List (Int × (List Nat) × Int))))) (s8 : Unit) (y9 : (Int × (List Nat) × Int)) : Rn (Lp Unit Bool) := (Rn.chk (((!decide ((y9.1) = (1 : Int))) && (!decide ((y9.1) = (-(1 : Int))))) = false → ((Sz (x11_law_colours_here).length) ∧ ((Lay .str (y9.2.1)) ∧ ((∀ y ∈ (chars x11_law_colours_here), Lay .str y) ∧ True)))) (Rn.if (((!decide ((y9.1) = (1 : Int))) && (!decide ((y9.1) = (-(1 : Int))))) || ((!memD (y9.2.1) (chars x11_law_colours_here)) || (!((decide ((0 : Int) ≤ (y9.2.2))) && (decide ((y9.2.2) < ((x12_law_two_here).length : Int))))))) (Rn.pure (Lp.ret false)) (Rn.pure (Lp.go ()))))
theorem e__law_due_L7 (x11_law_colours_here : (List Nat)) (x12_law_two_here : (List (Bool × (List (Int × (List Nat) × Int))))) (s8 : Unit) (y9 : (Int × (List Nat) × Int)) : r__law_due_L7 x11_law_colours_here x12_law_two_here s8 y9 = ⟨ok__law_due_L7 x11_law_colours_here x12_law_two_here s8 y9, m__law_due_L7 x11_law_colours_here x12_law_two_here s8 y9⟩ := by
  unfold r__law_due_L7
  with_unfolding_all rfl
def r__law_due_L1 (x5_law_colours_here : (List Nat)) (x6_law_two_here : (List (Bool × (List (Int × (List Nat) × Int))))) (s2 : Unit) (y3 : (Bool × (List (Int × (List Nat) × Int)))) : Rn (Lp Unit Bool) := (Rn.lpTE (fun (s8 : Unit) (y9 : (Int × (List Nat) × Int)) => (r__law_due_L7 (x5_law_colours_here) (x6_law_two_here) s8 y9)) () (y3.2) (fun (s22 : Unit) => (Rn.pure (Lp.go ()))))
theorem e__law_due_L1 (x5_law_colours_here : (List Nat)) (x6_law_two_here : (List (Bool × (List (Int × (List Nat) × Int))))) (s2 : Unit) (y3 : (Bool × (List (Int × (List Nat) × Int)))) : r__law_due_L1 x5_law_colours_here x6_law_two_here s2 y3 = ⟨ok__law_due_L1 x5_law_colours_here x6_law_two_here s2 y3, m__law_due_L1 x5_law_colours_here x6_law_two_here s2 y3⟩ := by
  unfold r__law_due_L1
  simp only [e__law_due_L7]
  with_unfolding_all rfl
def r__law_due_25 (x27_law_two_here : (List (Bool × (List (Int × (List Nat) × Int))))) : Rn Bool := (Rn.pure (decide ((0 : Int) < ((x27_law_two_here).length : Int))))
theorem e__law_due_25 (x27_law_two_here : (List (Bool × (List (Int × (List Nat) × Int))))) : r__law_due_25 x27_law_two_here = ⟨ok__law_due_25 x27_law_two_here, m__law_due_25 x27_law_two_here⟩ := by
  unfold r__law_due_25
  with_unfolding_all rfl
def r__law_due (x_law_colours_here : (List Nat)) (x_law_two_here : (List (Bool × (List (Int × (List Nat) × Int))))) : Rn Bool := (Rn.lpF (fun (s2 : Unit) (y3 : (Bool × (List (Int × (List Nat) × Int)))) => (r__law_due_L1 (x_law_colours_here) (x_law_two_here) s2 y3)) () x_law_two_here (fun (s24 : Unit) => (r__law_due_25 (x_law_two_here))))
theorem e__law_due (x_law_colours_here : (List Nat)) (x_law_two_here : (List (Bool × (List (Int × (List Nat) × Int))))) : r__law_due x_law_colours_here x_law_two_here = ⟨ok__law_due x_law_colours_here x_law_two_here, m__law_due x_law_colours_here x_law_two_here⟩ := by
  unfold r__law_due
  simp only [e__law_due_L1, e__law_due_25]
  with_unfolding_all rfl
def r_law_52 (x56_law_colours_here : (List Nat)) (x59_law_one : (List (Bool × (List (Int × (List Nat) × Int))))) (x60_law_found : Bool) : Rn (Lp Unit Bool) := (Rn.chk ((!true) = false → ((ok__law_due x56_law_colours_here x59_law_one) ∧ True)) (Rn.if ((!true) || (!decide (x60_law_found = (m__law_due x56_law_colours_here x59_law_one)))) (Rn.pure (Lp.ret false)) (Rn.pure (Lp.go ()))))
theorem e_law_52 (x56_law_colours_here : (List Nat)) (x59_law_one : (List (Bool × (List (Int × (List Nat) × Int))))) (x60_law_found : Bool) : r_law_52 x56_law_colours_here x59_law_one x60_law_found = ⟨ok_law_52 x56_law_colours_here x59_law_one x60_law_found, m_law_52 x56_law_colours_here x59_law_one x60_law_found⟩ := by
  unfold r_law_52
  with_unfolding_all rfl
def r_law_L42 (x49_law_colours_here : (List Nat)) (s43 : Unit) (y44 : (List (Bool × (List (Int × (List Nat) × Int))))) : Rn (Lp Unit Bool) := (Rn.bind (r_is_two_way x49_law_colours_here y44) (fun w1 => (r_law_52 (x49_law_colours_here) (y44) (w1))))
theorem e_law_L42 (x49_law_colours_here : (List Nat)) (s43 : Unit) (y44 : (List (Bool × (List (Int × (List Nat) × Int))))) : r_law_L42 x49_law_colours_here s43 y44 = ⟨ok_law_L42 x49_law_colours_here s43 y44, m_law_L42 x49_law_colours_here s43 y44⟩ := by
  unfold r_law_L42
  simp only [e_is_two_way, e_law_52]
  with_unfolding_all rfl
def r_law_34 (x38_law_colours_here : (List Nat)) (x39_law_two_here : (List (Bool × (List (Int × (List Nat) × Int))))) (x40_law_some : (List (List (Bool × (List (Int × (List Nat) × Int)))))) : Rn (Lp Unit Bool) := (Rn.chk (Sz ((x40_law_some).length + (([x39_law_two_here] : List (List (Bool × (List (Int × (List Nat) × Int)))))).length)) (Rn.lpTE (fun (s43 : Unit) (y44 : (List (Bool × (List (Int × (List Nat) × Int))))) => (r_law_L42 (x38_law_colours_here) s43 y44)) () (x40_law_some ++ ([x39_law_two_here] : List (List (Bool × (List (Int × (List Nat) × Int)))))) (fun (s68 : Unit) => (Rn.pure (Lp.go ())))))
theorem e_law_34 (x38_law_colours_here : (List Nat)) (x39_law_two_here : (List (Bool × (List (Int × (List Nat) × Int))))) (x40_law_some : (List (List (Bool × (List (Int × (List Nat) × Int)))))) : r_law_34 x38_law_colours_here x39_law_two_here x40_law_some = ⟨ok_law_34 x38_law_colours_here x39_law_two_here x40_law_some, m_law_34 x38_law_colours_here x39_law_two_here x40_law_some⟩ := by
  unfold r_law_34
  simp only [e_law_L42]
  with_unfolding_all rfl
def r_law_20 (x23_law_box_here : (List Int)) (x24_law_colours_here : (List Nat)) (x25_law_two_here : (List (Bool × (List (Int × (List Nat) × Int))))) : Rn (Lp Unit Bool) := (Rn.chk (RngOk (4 : Int)) (Rn.chk (Sz ((rng 0 (4 : Int))).length) (Rn.maps (fun (s30 : (List Int)) (y27 : Int) => (Rn.bind (r__law_bent s30 x24_law_colours_here x25_law_two_here) (fun t31 => (Rn.pure (t31.1, t31.2))))) x23_law_box_here (rng 0 (4 : Int)) (fun u32 => (Rn.chk (Sz ((([x25_law_two_here, [], (cut x25_law_two_here none (some (1 : Int)))] : List (List (Bool × (List (Int × (List Nat) × Int)))))).length + (u32.1).length)) (r_law_34 (x24_law_colours_here) (x25_law_two_here) ((([x25_law_two_here, [], (cut x25_law_two_here none (some (1 : Int)))] : List (List (Bool × (List (Int × (List Nat) × Int))))) ++ u32.1))))))))
theorem e_law_20 (x23_law_box_here : (List Int)) (x24_law_colours_here : (List Nat)) (x25_law_two_here : (List (Bool × (List (Int × (List Nat) × Int))))) : r_law_20 x23_law_box_here x24_law_colours_here x25_law_two_here = ⟨ok_law_20 x23_law_box_here x24_law_colours_here x25_law_two_here, m_law_20 x23_law_box_here x24_law_colours_here x25_law_two_here⟩ := by
  unfold r_law_20
  simp only [e__law_bent, e_law_34]
  with_unfolding_all rfl
def r_law_13 (x16_law_box_here : (List Int)) (x17_law_colours_here : (List Nat)) : Rn (Lp Unit Bool) := (Rn.bind (r__law_two x16_law_box_here x17_law_colours_here (4 : Int) (5 : Int)) (fun t19 => (r_law_20 (t19.2) (x17_law_colours_here) (t19.1))))
theorem e_law_13 (x16_law_box_here : (List Int)) (x17_law_colours_here : (List Nat)) : r_law_13 x16_law_box_here x17_law_colours_here = ⟨ok_law_13 x16_law_box_here x17_law_colours_here, m_law_13 x16_law_box_here x17_law_colours_here⟩ := by
  unfold r_law_13
  simp only [e__law_two, e_law_20]
  with_unfolding_all rfl
def r_law_6 (x9_law_box_here : (List Int)) : Rn (Lp Unit Bool) := (Rn.bind (r__law_take x9_law_box_here (2 : Int)) (fun t11 => (Rn.bind (r__law_colours t11.2 ((1 : Int) + t11.1)) (fun t12 => (r_law_13 (t12.2) (t12.1))))))
theorem e_law_6 (x9_law_box_here : (List Int)) : r_law_6 x9_law_box_here = ⟨ok_law_6 x9_law_box_here, m_law_6 x9_law_box_here⟩ := by
  unfold r_law_6
  simp only [e__law_take, e__law_colours, e_law_13]
  with_unfolding_all rfl
def r_law_L1 (x5_law_script : (List Int)) (s2 : Unit) (y3 : Int) : Rn (Lp Unit Bool) := (Rn.bind (r__law_box x5_law_script y3) (fun w2 => (r_law_6 (w2))))
theorem e_law_L1 (x5_law_script : (List Int)) (s2 : Unit) (y3 : Int) : r_law_L1 x5_law_script s2 y3 = ⟨ok_law_L1 x5_law_script s2 y3, m_law_L1 x5_law_script s2 y3⟩ := by
  unfold r_law_L1
  simp only [e__law_box, e_law_6]
  with_unfolding_all rfl
def r_law_82  : Rn Bool := (Rn.pure true)
theorem e_law_82  : r_law_82  = ⟨ok_law_82 , m_law_82 ⟩ := by
  unfold r_law_82
  with_unfolding_all rfl
def r_law (x_law_script : (List Int)) : Rn Bool := (Rn.chk (RngOk (max (4 : Int) (min ((x_law_script).length : Int) (10 : Int)))) (Rn.lpF (fun (s2 : Unit) (y3 : Int) => (r_law_L1 (x_law_script) s2 y3)) () (rng 0 (max (4 : Int) (min ((x_law_script).length : Int) (10 : Int)))) (fun (s81 : Unit) => r_law_82)))
theorem e_law (x_law_script : (List Int)) : r_law x_law_script = ⟨ok_law x_law_script, m_law x_law_script⟩ := by
  unfold r_law
  simp only [e_law_L1, e_law_82]
  with_unfolding_all rfl
end Wk

set_option Elab.async false
set_option linter.all false
set_option maxRecDepth 100000
set_option maxHeartbeats 2000000
namespace Wk
open PySem PySem.Spec PyProof.Rows L2 TL Dn
def top (i : Nat) : Stmt := PySem.Challenge.pw_walktold_k58_two_way_readers_looked_at.main.body.getD i (.Pass ⟨0, 0, 0, 0⟩)
structure Bt (mg : Str → Option Value) : Prop where
  z_all : mg "all" = none
  z_bool : mg "bool" = none
  z_int : mg "int" = none
  z_isinstance : mg "isinstance" = none
  z_len : mg "len" = none
  z_list : mg "list" = none
  z_max : mg "max" = none
  z_min : mg "min" = none
  z_range : mg "range" = none
  z_sorted : mg "sorted" = none
  z_tuple : mg "tuple" = none
abbrev st__law_box : Stmt := top 4
def pr__law_box (K : PySem.W.Frag) : Sp := fun vs H Q E => ∃ (x_law_script : (List Int)) (x_law_k : Int), ok__law_box x_law_script x_law_k ∧ Pm0 K [.fr .scr x_law_script, .fr .int x_law_k] (.ow (.lst .int (m__law_box x_law_script x_law_k))) vs H Q E
theorem sc__law_box : FnScope ["_law_script", "_law_k", "_law_cell", "_law_seed"] ["_law_script", "_law_k"] (defScope st__law_box) := ⟨rfl, rfl, rfl, by decide +kernel, rfl, by decide +kernel, by decide +kernel⟩
theorem w__law_box {P : Program} {w : World} {K : PySem.W.Frag} {mg : Str → Option Value} {base : Heap} (B : Bt mg)  {f : Addr} {fd : FuncData} (F : Fun K "_law_box" "_law_box" st__law_box f fd) : FnOk P w K mg base CX0 1 f fd ["_law_script", "_law_k"] (pr__law_box K) :=
  F.ok sc__law_box (fun vs H Q E h => by obtain ⟨x_law_script, x_law_k, _, h⟩ := h; exact pm0_len h) (fun cdv A outer s H vs Q E hr h => by
    obtain ⟨x_law_script, x_law_k, hk, h⟩ := h
    refine ⟨_, pss_wp, ?_⟩
    exact body_O (Γ0 := [.fr .scr x_law_script, .fr .int x_law_k, .un, .un]) (d := default) (dss_cons (ds_set 2 (de_add (de_mul hk.1 de_int (de_var 1 rfl)) de_int) sc__law_box.nd) (cont_let1 (fun (v30 : Int) => [.fr .scr x_law_script, .fr .int x_law_k, .fr .int v30, .un]) ((((7919 : Int) * x_law_k) + (11 : Int))) (fun (v30 : Int) => (ok__law_box_1 (x_law_script) (x_law_k) (v30))) hk.2 rfl (fun v30 hs29 => (dss_cons (ds_joinE (fun (s13 : Int) => [.fr .scr (x_law_script), .fr .int (x_law_k), .fr .int s13, .un]) (bif (decide ((x_law_k) < (((x_law_script)).length : Int))) then (Dn.get 0 (x_law_script) (x_law_k)) else (let j10 := (bif (decide ((0 : Int) < (((x_law_script)).length : Int))) then ((v30) + (((Dn.get 0 (x_law_script) ((x_law_k) % (((x_law_script)).length : Int))) % (2147483629 : Int)) * (69623 : Int))) else (v30)); j10)) rfl (ds_if (dt_cmp (dc_lt (de_var 1 rfl) (de_len (t := .int) B.z_len (dq_L (dl_scr (de_var 0 rfl))) (hg := by rfl) (hs := by rfl) (hpl := by rfl))) (h1 := by first | exact nobehind _ (by decide) (by decide) | rfl)) (fun hb6 => (dss_one (ds_set 2 (de_ixR (hs29.1 hb6).1 (de_var 0 rfl) (de_var 1 rfl) (hs := by exact fun _ _ => rfl)) sc__law_box.nd))) (fun hb7 => (dss_one (ds_joinE (fun (s11 : Int) => [.fr .scr (x_law_script), .fr .int (x_law_k), .fr .int s11, .un]) (bif (decide ((0 : Int) < (((x_law_script)).length : Int))) then ((v30) + (((Dn.get 0 (x_law_script) ((x_law_k) % (((x_law_script)).length : Int))) % (2147483629 : Int)) * (69623 : Int))) else (v30)) rfl (ds_if (dt_cmp (dc_gt (de_len (t := .int) B.z_len (dq_L (dl_scr (de_var 0 rfl))) (hg := by rfl) (hs := by rfl) (hpl := by rfl)) de_int) (h1 := by first | exact nobehind _ (by decide) (by decide) | rfl)) (fun hb8 => (dss_one (ds_set 2 (de_add (de_var 2 rfl) (de_mul ((hs29.2.1 hb7).1 hb8).2.2.1 (de_mod (j := (2147483629 : Int)) (by decide +kernel) (de_ixR ((hs29.2.1 hb7).1 hb8).2.1 (de_var 0 rfl) (de_mod (j := (((x_law_script)).length : Int)) ((hs29.2.1 hb7).1 hb8).1 (de_var 1 rfl) (de_len (t := .int) B.z_len (dq_L (dl_scr (de_var 0 rfl))) (hg := by rfl) (hs := by rfl) (hpl := by rfl))) (hs := by exact fun _ _ => rfl)) de_int) de_int)) sc__law_box.nd))) (fun hb9 => dss_nil)) (Nx.br (fun _ => (Nx.nx ent_refl)) (fun _ => (Nx.nx ent_refl))))))) (Nx.br (fun _ => (Nx.nx ent_refl)) (fun _ => (Nx.nx ent_refl)))) (cont_let1 (fun (v28 : Int) => [.fr .scr (x_law_script), .fr .int (x_law_k), .fr .int v28, .un]) (((bif (decide ((x_law_k) < (((x_law_script)).length : Int))) then (Dn.get 0 (x_law_script) (x_law_k)) else (let j10 := (bif (decide ((0 : Int) < (((x_law_script)).length : Int))) then ((v30) + (((Dn.get 0 (x_law_script) ((x_law_k) % (((x_law_script)).length : Int))) % (2147483629 : Int)) * (69623 : Int))) else (v30)); j10)))) (fun (v28 : Int) => (ok__law_box_14 ((x_law_k)) (v28))) hs29.2.2 rfl (fun v28 hs27 => (dss_cons (ds_set 3 (de_add (de_mod (j := (2147483629 : Int)) (by decide +kernel) (de_add (de_mul hs27.1 (de_mod (j := (2147483629 : Int)) (by decide +kernel) (de_var 2 rfl) de_int) de_int) (de_mul hs27.2.1 de_int (de_var 1 rfl))) de_int) de_int) sc__law_box.nd) (cont_let1 (fun (v26 : Int) => [.fr .scr ((x_law_script)), .fr .int ((x_law_k)), .fr .int (v28), .fr .int v26]) (((((((v28) % (2147483629 : Int)) * (48271 : Int)) + ((40692 : Int) * ((x_law_k)))) % (2147483629 : Int)) + (1 : Int))) (fun (v26 : Int) => (ok__law_box_19 ((v28)) (v26))) hs27.2.2 rfl (fun v26 hs25 => (dss_one (ds_retO (do_lst (t := .int) (dls_cons (de_ixL (t := .int) (default : Int) hs25.1 (de_frz (do_lst (t := .int) (dls_cons de_int (dls_cons (de_var 2 rfl) dls_nil (hs := by rfl)) (hs := by rfl)) (hz := by exact sz_of rfl))) (de_intB B.z_int (de_cmp (dc_ge (de_var 2 rfl) (de_pow (i := (10 : Int)) (j := (18 : Int)) ⟨by decide, by decide, by decide⟩ de_int de_int)) (h1 := by first | exact nobehind _ (by decide) (by decide) | rfl)) (hg := by rfl) (hs := by rfl) (hpl := by rfl)) (hs := by exact fun _ _ => rfl)) (dls_cons (de_var 3 rfl) dls_nil (hs := by rfl)) (hs := by rfl)) (hz := by exact sz_of rfl))))) rfl))) rfl))) rfl)) rets_rt h (hΓ := by rfl) (hl := by exact Nat.le_of_ble_eq_true rfl))
abbrev st__law_take : Stmt := top 5
def pr__law_take (K : PySem.W.Frag) : Sp := fun vs H Q E => ∃ (x_law_box_here : (List Int)) (x_law_many : Int), ok__law_take x_law_box_here x_law_many ∧ Pm1 K (.lst .int x_law_box_here) (.lst .int (m__law_take x_law_box_here x_law_many).2) [.fr .int x_law_many] (.fr .int (m__law_take x_law_box_here x_law_many).1) vs H Q E
theorem sc__law_take : FnScope ["_law_box_here", "_law_many", "_law_digit", "_law_one"] ["_law_box_here", "_law_many"] (defScope st__law_take) := ⟨rfl, rfl, rfl, by decide +kernel, rfl, by decide +kernel, by decide +kernel⟩
theorem w__law_take {P : Program} {w : World} {K : PySem.W.Frag} {mg : Str → Option Value} {base : Heap} (B : Bt mg)  {f : Addr} {fd : FuncData} (F : Fun K "_law_take" "_law_take" st__law_take f fd) : FnOk P w K mg base CX0 1 f fd ["_law_box_here", "_law_many"] (pr__law_take K) :=
  F.ok sc__law_take (fun vs H Q E h => by obtain ⟨x_law_box_here, x_law_many, _, h⟩ := h; exact pm1_len h) (fun cdv A outer s H vs Q E hr h => by
    obtain ⟨x_law_box_here, x_law_many, hk, h⟩ := h
    refine ⟨_, pss_wp, ?_⟩
    exact body_B (Γ0 := [.ow true (.lst .int x_law_box_here), .fr .int x_law_many, .un, .un]) (d := default) (dss_cons (ds_if (dt_cmp (dc_gt (de_ixV (t := .int) 0 (default : Int) hk.1 de_int (h := rfl) (hN := by rfl) (hv := by first | exact Or.inl rfl | exact Or.inr (Or.inl rfl) | exact Or.inr (Or.inr rfl)) (h0 := by rfl) (hd := by decide) (hcd := by decide) (hs := by exact fun _ _ => rfl)) de_int) (h1 := by first | exact nobehind _ (by decide) (by decide) | rfl)) (fun hb1 => (dss_cons (ds_set 2 (de_mod (j := x_law_many) (hk.2.1 hb1).2.1 (de_ixV (t := .int) 0 (default : Int) (hk.2.1 hb1).1 de_int (h := rfl) (hN := by rfl) (hv := by first | exact Or.inl rfl | exact Or.inr (Or.inl rfl) | exact Or.inr (Or.inr rfl)) (h0 := by rfl) (hd := by decide) (hcd := by decide) (hs := by exact fun _ _ => rfl)) (de_var 1 rfl)) sc__law_take.nd) (cont_let1 (fun (v15 : Int) => [.ow true (.lst .int x_law_box_here), .fr .int x_law_many, .fr .int v15, .un]) (((Dn.get (default : Int) x_law_box_here (0 : Int)) % x_law_many)) (fun (v15 : Int) => (ok__law_take_2 (x_law_box_here) (x_law_many) (v15))) (hk.2.1 hb1).2.2 rfl (fun v15 hs14 => (dss_cons (ds_setix 0 hs14.2.2.1 (de_fdiv (j := (x_law_many)) hs14.2.1 (de_ixV (t := .int) 0 (default : Int) hs14.1 de_int (h := rfl) (hN := by rfl) (hv := by first | exact Or.inl rfl | exact Or.inr (Or.inl rfl) | exact Or.inr (Or.inr rfl)) (h0 := by rfl) (hd := by decide) (hcd := by decide) (hs := by exact fun _ _ => rfl)) (de_var 1 rfl)) de_int (h := rfl) (h0 := by rfl) (hN := by rfl) (hv := by first | exact Or.inl rfl | exact Or.inr (Or.inl rfl) | exact Or.inr (Or.inr rfl)) (hd := by decide) (hcd := by decide) (ha := by intro _; rfl) (hs := by rfl) (hw := by rfl) (h1 := by rfl)) (cont_let1 (fun (v13 : (List Int)) => [.ow true (.lst .int v13), .fr .int (x_law_many), .fr .int (v15), .un]) ((((x_law_box_here)).set (ix ((x_law_box_here)).length (0 : Int)) ((Dn.get (default : Int) (x_law_box_here) (0 : Int)) / (x_law_many)))) (fun (v13 : (List Int)) => (ok__law_take_7 (v13) ((v15)))) hs14.2.2.2 rfl (fun v13 hs12 => (dss_one (ds_retB (de_var 2 rfl) (h0 := rfl)))) rfl))) rfl))) (fun hb16 => dss_nil)) (cont_br (fun hb1 => cont_rt) (fun hb16 => (cont_nx (dss_cons (ds_set 3 (de_mod (j := (2147483647 : Int)) (by decide +kernel) (de_mul (hk.2.2.1 hb16).2.1 (de_ixV (t := .int) 0 (default : Int) (hk.2.2.1 hb16).1 de_int (h := rfl) (hN := by rfl) (hv := by first | exact Or.inl rfl | exact Or.inr (Or.inl rfl) | exact Or.inr (Or.inr rfl)) (h0 := by rfl) (hd := by decide) (hcd := by decide) (hs := by exact fun _ _ => rfl)) de_int) de_int) sc__law_take.nd) (cont_let1 (fun (v30 : Int) => [.ow true (.lst .int x_law_box_here), .fr .int x_law_many, .un, .fr .int v30]) ((((Dn.get (default : Int) x_law_box_here (1 : Int)) * (69623 : Int)) % (2147483647 : Int))) (fun (v30 : Int) => (ok__law_take_17 (x_law_box_here) (x_law_many) (v30))) (hk.2.2.1 hb16).2.2 rfl (fun v30 hs29 => (dss_cons (ds_setix 0 hs29.2.1 (de_add (de_mod (j := (2147483629 : Int)) (by decide +kernel) (de_add (de_mul hs29.1 (de_var 3 rfl) de_int) de_int) de_int) de_int) de_int (h := rfl) (h0 := by rfl) (hN := by rfl) (hv := by first | exact Or.inl rfl | exact Or.inr (Or.inl rfl) | exact Or.inr (Or.inr rfl)) (hd := by decide) (hcd := by decide) (ha := by intro _; rfl) (hs := by rfl) (hw := by rfl) (h1 := by rfl)) (cont_let1 (fun (v28 : (List Int)) => [.ow true (.lst .int v28), .fr .int (x_law_many), .un, .fr .int (v30)]) ((((x_law_box_here)).set (ix ((x_law_box_here)).length (1 : Int)) (((((v30) * (48271 : Int)) + (30103 : Int)) % (2147483629 : Int)) + (1 : Int)))) (fun (v28 : (List Int)) => (ok__law_take_22 (v28) ((x_law_many)) ((v30)))) hs29.2.2 rfl (fun v28 hs27 => (dss_one (ds_retB (de_mod (j := ((x_law_many))) hs27.2.2.1 (de_fdiv (j := (8191 : Int)) (by decide +kernel) (de_add (de_mul hs27.1 (de_var 3 rfl) de_int) (de_ixV (t := .int) 0 (default : Int) hs27.2.1 de_int (h := rfl) (hN := by rfl) (hv := by first | exact Or.inl rfl | exact Or.inr (Or.inl rfl) | exact Or.inr (Or.inr rfl)) (h0 := by rfl) (hd := by decide) (hcd := by decide) (hs := by exact fun _ _ => rfl))) de_int) (de_var 1 rfl)) (h0 := rfl)))) rfl))) rfl)))))) (rets_br rets_rt rets_rt) h (hΓ := by rfl) (hl := by exact Nat.le_of_ble_eq_true rfl))
abbrev st__law_colours : Stmt := top 6
def pr__law_colours (K : PySem.W.Frag) : Sp := fun vs H Q E => ∃ (x_law_box_here : (List Int)) (x_law_many : Int), ok__law_colours x_law_box_here x_law_many ∧ Pm1 K (.lst .int x_law_box_here) (.lst .int (m__law_colours x_law_box_here x_law_many).2) [.fr .int x_law_many] (.fr .str (m__law_colours x_law_box_here x_law_many).1) vs H Q E
theorem sc__law_colours : FnScope ["_law_box_here", "_law_many", "_law_left", "_law_k"] ["_law_box_here", "_law_many"] (defScope st__law_colours) := ⟨rfl, rfl, rfl, by decide +kernel, rfl, by decide +kernel, by decide +kernel⟩
theorem w__law_colours {P : Program} {w : World} {K : PySem.W.Frag} {mg : Str → Option Value} {base : Heap} (B : Bt mg) (C__law_take : Cl P w K mg base 1 "_law_take" ["_law_box_here", "_law_many"] (pr__law_take K)) {f : Addr} {fd : FuncData} (F : Fun K "_law_colours" "_law_colours" st__law_colours f fd) : FnOk P w K mg base CX0 2 f fd ["_law_box_here", "_law_many"] (pr__law_colours K) :=
  F.ok sc__law_colours (fun vs H Q E h => by obtain ⟨x_law_box_here, x_law_many, _, h⟩ := h; exact pm1_len h) (fun cdv A outer s H vs Q E hr h => by
    obtain ⟨x_law_box_here, x_law_many, hk, h⟩ := h
    refine ⟨_, pss_wp, ?_⟩
    refine body_B (Γ0 := [.ow true (.lst .int x_law_box_here), .fr .int x_law_many, .un, .un]) (d := default) (dss_cons (ds_setO 2 (do_listS B.z_list hk.1 (de_str [97, 98, 99, 100, 101, 102, 103, 104, 105, 106, 107, 108, 109, 110, 111, 112, 113, 114, 115, 116, 117, 118, 119, 120, 121, 122]) (hc := by rfl) (hg := by rfl) (hs := by rfl) (hpl := by rfl)) sc__law_colours.nd) (cont_let1 (fun (v14 : (List (List Nat))) => [.ow true (.lst .int x_law_box_here), .fr .int x_law_many, .ow false (.lst .str v14), .un]) ((chars ([97, 98, 99, 100, 101, 102, 103, 104, 105, 106, 107, 108, 109, 110, 111, 112, 113, 114, 115, 116, 117, 118, 119, 120, 121, 122] : List Nat))) (fun (v14 : (List (List Nat))) => (ok__law_colours_1 (x_law_box_here) (x_law_many) (v14))) hk.2 rfl (fun v14 hs13 => (dss_one (ds_retB (de_join hs13.2.2.2.2.1 (de_str []) (dq_L (dl_O (do_sorted hr B.z_sorted hs13.2.2.2.1 (dl_O (do_lc (lcq_mapS (t := .str) [("_law_k", 3)] (fun (s12 : ((List Int) × (List (List Nat)))) => [.ow true (.lst .int s12.1), .fr .int (x_law_many), .ow false (.lst .str s12.2), .un]) ((x_law_box_here), (v14)) (P := (fun (s9 : ((List Int) × (List (List Nat)))) (y6 : Int) => ((ok__law_take s9.1 ((s9.2).length : Int)) ∧ (let t10 := (m__law_take s9.1 ((s9.2).length : Int)); ((IxOk (s9.2).length t10.1) ∧ ((Sz (s9.2).length) ∧ True)))))) (f := (fun (s9 : ((List Int) × (List (List Nat)))) (y6 : Int) => (let t10 := (m__law_take s9.1 ((s9.2).length : Int)); ((Dn.get (default : (List Nat)) s9.2 t10.1), (t10.2, ((s9.2).eraseIdx (ix (s9.2).length t10.1))))))) (di_range1 B.z_range hs13.1 (de_var 1 rfl) (eg_name 3 .int) (hgl := by rfl) (hs := by rfl)) rfl (fun _ _ _ _ _ => (pg_name (i := 3) sc__law_colours.nd rfl (by first | exact Or.inl rfl | exact Or.inr rfl))) hs13.2.1 hs13.2.2.1 ?b1 (show BlkOk ["_law_box_here", "_law_many", "_law_left", "_law_k"] (defScope st__law_colours) _ _ from ⟨rfl, by decide +kernel, by decide +kernel, by decide +kernel, by decide +kernel⟩) (hw := by intro _; rfl) (htg := by decide)) sc__law_colours.nd (hc := by rfl) (hs := by intro _; rfl))) (hc := by rfl) (hd := by decide) (hg := by rfl) (hs := by rfl) (hpl := by rfl)))) (hs := by rfl) (hbase := by rfl) (hline := by rfl)) (h0 := rfl)))) rfl)) rets_rt h (hΓ := by rfl) (hl := by exact Nat.le_of_ble_eq_true rfl)
    case b1 =>
      exact (fun s9 y6 hP7 => ⟨_, (((m__law_take s9.1 ((s9.2).length : Int))).2, ((s9.2).eraseIdx (ix (s9.2).length ((m__law_take s9.1 ((s9.2).length : Int))).1))), _, (fun _ _ _ _ _ => (de_eq (de_popAt (t := .str) 2 (default : (List Nat)) hP7.2.1 hP7.2.2.1 (cl_callB 0 C__law_take (hr.mono (by decide)) (fun _ _ _ h => ⟨_, _, hP7.1, h⟩) (da_box 0 (da_cons (de_len (t := .str) B.z_len (dq_L (dl_V 2 rfl)) (hg := by rfl) (hs := by rfl) (hpl := by rfl)) da_nil (hs := by rfl))) (hi := rfl) (hf := by rfl) (hg := by rfl) (hdb := by decide) (he := by rfl) (hpl := by rfl)) (h := rfl) (h0 := by rfl) (hN := by rfl) (hv := by first | exact Or.inl rfl | exact Or.inr (Or.inl rfl) | exact Or.inr (Or.inr rfl)) (hd := by decide) (hcd := by decide) (hbase := by rfl) (hfew := by rfl) (hline := by rfl) (hs := by rfl) (hpl := by rfl)) rfl rfl)), (.eq (.eq (.eq (.un (.nil))))), rfl⟩))
abbrev st__law_two : Stmt := top 7
def pr__law_two (K : PySem.W.Frag) : Sp := fun vs H Q E => ∃ (x_law_box_here : (List Int)) (x_law_colours_here : (List Nat)) (x_law_rows : Int) (x_law_goes : Int), ok__law_two x_law_box_here x_law_colours_here x_law_rows x_law_goes ∧ Pm1 K (.lst .int x_law_box_here) (.lst .int (m__law_two x_law_box_here x_law_colours_here x_law_rows x_law_goes).2) [.fr .str x_law_colours_here, .fr .int x_law_rows, .fr .int x_law_goes] (.fr (.tup (.p2 .bool (.tup (.p3 .int .str .int)))) (m__law_two x_law_box_here x_law_colours_here x_law_rows x_law_goes).1) vs H Q E
theorem sc__law_two : FnScope ["_law_box_here", "_law_colours_here", "_law_rows", "_law_goes", "_law_many", "_law_found", "_law_k", "_law_own", "_law_j", "_law_way"] ["_law_box_here", "_law_colours_here", "_law_rows", "_law_goes"] (defScope st__law_two) := ⟨rfl, rfl, rfl, by decide +kernel, rfl, by decide +kernel, by decide +kernel⟩
theorem w__law_two {P : Program} {w : World} {K : PySem.W.Frag} {mg : Str → Option Value} {base : Heap} (B : Bt mg) (C__law_take : Cl P w K mg base 1 "_law_take" ["_law_box_here", "_law_many"] (pr__law_take K)) {f : Addr} {fd : FuncData} (F : Fun K "_law_two" "_law_two" st__law_two f fd) : FnOk P w K mg base CX0 2 f fd ["_law_box_here", "_law_colours_here", "_law_rows", "_law_goes"] (pr__law_two K) :=
  F.ok sc__law_two (fun vs H Q E h => by obtain ⟨x_law_box_here, x_law_colours_here, x_law_rows, x_law_goes, _, h⟩ := h; exact pm1_len h) (fun cdv A outer s H vs Q E hr h => by
    obtain ⟨x_law_box_here, x_law_colours_here, x_law_rows, x_law_goes, hk, h⟩ := h
    refine ⟨_, pss_wp, ?_⟩
    refine body_B (Γ0 := [.ow true (.lst .int x_law_box_here), .fr .str x_law_colours_here, .fr .int x_law_rows, .fr .int x_law_goes, .un, .un, .un, .un, .un, .un]) (d := default) (dss_cons (ds_set 4 (de_add de_int (cl_callB 0 C__law_take (hr.mono (by decide)) (fun _ _ _ h => ⟨_, _, hk.1, h⟩) (da_box 0 (da_cons (de_var 2 rfl) da_nil (hs := by rfl))) (hi := rfl) (hf := by rfl) (hg := by rfl) (hdb := by decide) (he := by rfl) (hpl := by rfl))) sc__law_two.nd) (cont_let2 (fun (v98 : (List Int)) (v99 : Int) => [.ow true (.lst .int v98), .fr .str x_law_colours_here, .fr .int x_law_rows, .fr .int x_law_goes, .fr .int v99, .un, .un, .un, .un, .un]) (((m__law_take x_law_box_here x_law_rows)).2) (((1 : Int) + ((m__law_take x_law_box_here x_law_rows)).1)) (fun (v98 : (List Int)) (v99 : Int) => (ok__law_two_2 (v98) (x_law_colours_here) (x_law_goes) (v99))) hk.2 rfl (fun v98 v99 hs97 => (dss_cons (ds_setO 5 (do_lst (t := (.p2 .bool (.tup (.p3 .int .str .int)))) dls_nil (hz := by exact sz_of rfl)) sc__law_two.nd) (cont_let1 (fun (v96 : (List (Bool × (List (Int × (List Nat) × Int))))) => [.ow true (.lst .int (v98)), .fr .str (x_law_colours_here), .fr .int (x_law_rows), .fr .int (x_law_goes), .fr .int (v99), .ow false (.lst (.p2 .bool (.tup (.p3 .int .str .int))) v96), .un, .un, .un, .un]) (([] : List (Bool × (List (Int × (List Nat) × Int))))) (fun (v96 : (List (Bool × (List (Int × (List Nat) × Int))))) => (ok__law_two_9 ((v98)) ((x_law_colours_here)) ((x_law_goes)) ((v99)) (v96))) hs97 rfl (fun v96 hs95 => (dss_cons (ds_for (fun (s82 : ((List Int) × (List (Bool × (List (Int × (List Nat) × Int)))))) => [.ow true (.lst .int s82.1), .fr .str ((x_law_colours_here)), .fr .int ((x_law_rows)), .fr .int ((x_law_goes)), .fr .int ((v99)), .ow false (.lst (.p2 .bool (.tup (.p3 .int .str .int))) s82.2), .un, .un, .un, .un]) (s0 := (((v98)), (v96))) (f := (m__law_two_L17 (((x_law_colours_here))) (((x_law_goes))) (((v99))))) (P := (ok__law_two_L17 (((x_law_colours_here))) (((x_law_goes))) (((v99))))) (di_range1 B.z_range hs95.1 (de_var 4 rfl) (eg_name 6 .int) (hgl := by rfl) (hs := by rfl)) ent_refl hs95.2.1 ?b2 (pg_name (i := 6) sc__law_two.nd rfl (by first | exact Or.inl rfl | exact Or.inr rfl)) PassesOwn.never (hc := by rfl) (hs := by intro _; rfl)) (cont_let2 (fun (v93 : (List Int)) (v94 : (List (Bool × (List (Int × (List Nat) × Int))))) => [.ow true (.lst .int v93), .fr .str ((x_law_colours_here)), .fr .int ((x_law_rows)), .fr .int ((x_law_goes)), .fr .int ((v99)), .ow false (.lst (.p2 .bool (.tup (.p3 .int .str .int))) v94), .un, .un, .un, .un]) ((((rng 0 ((v99)))).foldl (m__law_two_L17 (((x_law_colours_here))) (((x_law_goes))) (((v99)))) (((v98)), (v96))).1) ((((rng 0 ((v99)))).foldl (m__law_two_L17 (((x_law_colours_here))) (((x_law_goes))) (((v99)))) (((v98)), (v96))).2) (fun (v93 : (List Int)) (v94 : (List (Bool × (List (Int × (List Nat) × Int))))) => (ok__law_two_84 (v93) (v94))) hs95.2.2 rfl (fun v93 v94 hs92 => (dss_ent (ent_trans (ent_frz 5 rfl) ent_refl) (dss_one (ds_retB (de_tuple B.z_tuple (dl_of (de_var 5 rfl)) (hg := by rfl) (hs := by rfl) (hpl := by rfl)) (h0 := rfl))))) rfl))) rfl))) rfl)) rets_rt h (hΓ := by rfl) (hl := by exact Nat.le_of_ble_eq_true rfl)
    case b2 =>
      refine (fun s18 y19 H20 => ⟨_, (dss_cons (ds_setO 7 (do_lst (t := (.p3 .int .str .int)) dls_nil (hz := by exact sz_of rfl)) sc__law_two.nd) (cont_let1 (fun (v81 : (List (Int × (List Nat) × Int))) => [.ow true (.lst .int s18.1), .fr .str (((x_law_colours_here))), .fr .int (((x_law_rows))), .fr .int (((x_law_goes))), .fr .int (((v99))), .ow false (.lst (.p2 .bool (.tup (.p3 .int .str .int))) s18.2), .fr .int y19, .ow false (.lst (.p3 .int .str .int) v81), .un, .un]) (([] : List (Int × (List Nat) × Int))) (fun (v81 : (List (Int × (List Nat) × Int))) => (ok__law_two_25 (s18.1) ((((x_law_colours_here)))) ((((x_law_goes)))) ((((v99)))) (s18.2) (v81))) H20 rfl (fun v81 hs80 => (dss_cons (ds_for (fun (s64 : ((List Int) × (List (Int × (List Nat) × Int)))) => [.ow true (.lst .int s64.1), .fr .str ((((x_law_colours_here)))), .fr .int ((((x_law_rows)))), .fr .int ((((x_law_goes)))), .fr .int ((((v99)))), .ow false (.lst (.p2 .bool (.tup (.p3 .int .str .int))) (s18.2)), .fr .int (y19), .ow false (.lst (.p3 .int .str .int) s64.2), .un, .un]) (s0 := (((m__law_take (s18.1) (((((x_law_goes)))) + (1 : Int)))).2, (v81))) (f := (m__law_two_L36 (((((x_law_colours_here))))) (((((v99))))))) (P := (ok__law_two_L36 (((((x_law_colours_here))))) (((((v99))))))) (di_range1 B.z_range hs80.2.1 (cl_callB 0 C__law_take (hr.mono (by decide)) (fun _ _ _ h => ⟨_, _, hs80.1, h⟩) (da_box 0 (da_cons (de_add (de_var 3 rfl) de_int) da_nil (hs := by rfl))) (hi := rfl) (hf := by rfl) (hg := by rfl) (hdb := by decide) (he := by rfl) (hpl := by rfl)) (eg_name 8 .int) (hgl := by rfl) (hs := by rfl)) ent_refl hs80.2.2.1 ?b3 (pg_name (i := 8) sc__law_two.nd rfl (by first | exact Or.inl rfl | exact Or.inr rfl)) PassesOwn.never (hc := by rfl) (hs := by intro _; rfl)) (cont_let2 (fun (v78 : (List Int)) (v79 : (List (Int × (List Nat) × Int))) => [.ow true (.lst .int v78), .fr .str ((((x_law_colours_here)))), .fr .int ((((x_law_rows)))), .fr .int ((((x_law_goes)))), .fr .int ((((v99)))), .ow false (.lst (.p2 .bool (.tup (.p3 .int .str .int))) (s18.2)), .fr .int (y19), .ow false (.lst (.p3 .int .str .int) v79), .un, .un]) ((((rng 0 ((m__law_take (s18.1) (((((x_law_goes)))) + (1 : Int)))).1)).foldl (m__law_two_L36 (((((x_law_colours_here))))) (((((v99)))))) (((m__law_take (s18.1) (((((x_law_goes)))) + (1 : Int)))).2, (v81))).1) ((((rng 0 ((m__law_take (s18.1) (((((x_law_goes)))) + (1 : Int)))).1)).foldl (m__law_two_L36 (((((x_law_colours_here))))) (((((v99)))))) (((m__law_take (s18.1) (((((x_law_goes)))) + (1 : Int)))).2, (v81))).2) (fun (v78 : (List Int)) (v79 : (List (Int × (List Nat) × Int))) => (ok__law_two_66 (v78) ((s18.2)) (v79))) hs80.2.2.2 rfl (fun v78 v79 hs77 => (dss_ent (ent_trans (ent_frz 7 rfl) ent_refl) (dss_one (ds_app 5 hs77.2.1 (de_t2 (de_cmp (dc_eqS (t := .int) (cl_callB 0 C__law_take (hr.mono (by decide)) (fun _ _ _ h => ⟨_, _, hs77.1, h⟩) (da_box 0 (da_cons de_int da_nil (hs := by rfl))) (hi := rfl) (hf := by rfl) (hg := by rfl) (hdb := by decide) (he := by rfl) (hpl := by rfl)) de_int (hs := by rfl)) (h1 := by first | exact nobehind _ (by decide) (by decide) | rfl)) (de_tuple B.z_tuple (dl_of (de_var 7 rfl)) (hg := by rfl) (hs := by rfl) (hpl := by rfl)) (hs := by rfl) (hs2 := by rfl)) (h := rfl) (h0 := by rfl) (hN := by rfl) (hv := by first | exact Or.inl rfl | exact Or.inr (Or.inl rfl) | exact Or.inr (Or.inr rfl)) (hd := by decide) (hcd := by decide) (hbase := by rfl) (hfew := by rfl) (hline := by rfl) (hs := by rfl) (hpl := by rfl) (hsw := by rfl))))) rfl))) rfl)), (tn_nx (ent_wk (.eq (.eq (.eq (.eq (.eq (.eq (.un (.un (.eq (.eq (.nil)))))))))))))⟩)
      case b3 =>
        exact (fun s37 y38 H39 => ⟨_, (dss_cons (ds_set 9 (de_ixL (t := .int) (default : Int) H39.2.1 (de_frz (do_lst (t := .int) (dls_cons de_int (dls_cons de_int (dls_cons (de_neg de_int) dls_nil (hs := by rfl)) (hs := by rfl)) (hs := by rfl)) (hz := by exact sz_of rfl))) (cl_callB 0 C__law_take (hr.mono (by decide)) (fun _ _ _ h => ⟨_, _, H39.1, h⟩) (da_box 0 (da_cons de_int da_nil (hs := by rfl))) (hi := rfl) (hf := by rfl) (hg := by rfl) (hdb := by decide) (he := by rfl) (hpl := by rfl)) (hs := by exact fun _ _ => rfl)) sc__law_two.nd) (cont_let2 (fun (v62 : (List Int)) (v63 : Int) => [.ow true (.lst .int v62), .fr .str (((((x_law_colours_here))))), .fr .int (((((x_law_rows))))), .fr .int (((((x_law_goes))))), .fr .int (((((v99))))), .ow false (.lst (.p2 .bool (.tup (.p3 .int .str .int))) ((s18.2))), .fr .int ((y19)), .ow false (.lst (.p3 .int .str .int) s37.2), .fr .int y38, .fr .int v63]) (((m__law_take s37.1 (3 : Int))).2) ((Dn.get (default : Int) ([(1 : Int), (1 : Int), (-(1 : Int))] : List Int) ((m__law_take s37.1 (3 : Int))).1)) (fun (v62 : (List Int)) (v63 : Int) => (ok__law_two_47 (v62) ((((((x_law_colours_here)))))) ((((((v99)))))) (s37.2) (v63))) H39.2.2 rfl (fun v62 v63 hs61 => (dss_one (ds_app 7 hs61.2.2.2.2.2.1 (de_t3 (de_var 9 rfl) (de_ixS hs61.2.2.1 hs61.2.2.2.1 (de_var 1 rfl) (cl_callB 0 C__law_take (hr.mono (by decide)) (fun _ _ _ h => ⟨_, _, hs61.2.1, h⟩) (da_box 0 (da_cons (de_lenS B.z_len hs61.1 (de_var 1 rfl) (hg := by rfl) (hs := by rfl) (hpl := by rfl)) da_nil (hs := by rfl))) (hi := rfl) (hf := by rfl) (hg := by rfl) (hdb := by decide) (he := by rfl) (hpl := by rfl)) (hs := by exact fun _ _ => rfl)) (cl_callB 0 C__law_take (hr.mono (by decide)) (fun _ _ _ h => ⟨_, _, hs61.2.2.2.2.1, h⟩) (da_box 0 (da_cons (de_var 4 rfl) da_nil (hs := by rfl))) (hi := rfl) (hf := by rfl) (hg := by rfl) (hdb := by decide) (he := by rfl) (hpl := by rfl)) (hs := by rfl) (hs2 := by rfl) (hs3 := by rfl)) (h := rfl) (h0 := by rfl) (hN := by rfl) (hv := by first | exact Or.inl rfl | exact Or.inr (Or.inl rfl) | exact Or.inr (Or.inr rfl)) (hd := by decide) (hcd := by decide) (hbase := by rfl) (hfew := by rfl) (hline := by rfl) (hs := by rfl) (hpl := by rfl) (hsw := by rfl)))) rfl)), (tn_nx (ent_wk (.eq (.eq (.eq (.eq (.eq (.eq (.eq (.eq (.un (.un (.nil)))))))))))))⟩))
abbrev st_is_going : Stmt := top 1
def pr_is_going (K : PySem.W.Frag) : Sp := fun vs H Q E => ∃ (x_colours : (List Nat)) (x_two : (List (Bool × (List (Int × (List Nat) × Int))))) (x_going : (Int × (List Nat) × Int)), ok_is_going x_colours x_two x_going ∧ Pm0 K [.fr .str x_colours, .fr (.tup (.p2 .bool (.tup (.p3 .int .str .int)))) x_two, .fr (.p3 .int .str .int) x_going] (.fr .bool (m_is_going x_colours x_two x_going)) vs H Q E
theorem sc_is_going : FnScope ["colours", "two", "going", "way", "colour", "row"] ["colours", "two", "going"] (defScope st_is_going) := ⟨rfl, rfl, rfl, by decide +kernel, rfl, by decide +kernel, by decide +kernel⟩
theorem w_is_going {P : Program} {w : World} {K : PySem.W.Frag} {mg : Str → Option Value} {base : Heap} (B : Bt mg)  {f : Addr} {fd : FuncData} (F : Fun K "is_going" "is_going" st_is_going f fd) : FnOk P w K mg base CX0 1 f fd ["colours", "two", "going"] (pr_is_going K) :=
  F.ok sc_is_going (fun vs H Q E h => by obtain ⟨x_colours, x_two, x_going, _, h⟩ := h; exact pm0_len h) (fun cdv A outer s H vs Q E hr h => by
    obtain ⟨x_colours, x_two, x_going, hk, h⟩ := h
    refine ⟨_, pss_wp, ?_⟩
    exact body_F (Γ0 := [.fr .str x_colours, .fr (.tup (.p2 .bool (.tup (.p3 .int .str .int)))) x_two, .fr (.p3 .int .str .int) x_going, .un, .un, .un]) (d := default) (dss_cons (ds_unpack (de_var 2 rfl) (eg_3 3 4 5 .int .str .int) (pg_tup rfl (pgs_cons (pg_name (i := 3) sc_is_going.nd rfl (by first | exact Or.inl rfl | exact Or.inr rfl)) (pgs_cons (pg_name (i := 4) sc_is_going.nd rfl (by first | exact Or.inl rfl | exact Or.inr rfl)) (pgs_cons (pg_name (i := 5) sc_is_going.nd rfl (by first | exact Or.inl rfl | exact Or.inr rfl)) pgs_nil)))) (hs := by rfl) (hw := by rfl) (h1 := by rfl)) (cont_let3 (fun (v15 : Int) (v16 : (List Nat)) (v17 : Int) => [.fr .str x_colours, .fr (.tup (.p2 .bool (.tup (.p3 .int .str .int)))) x_two, .fr (.p3 .int .str .int) x_going, .fr .int v15, .fr .str v16, .fr .int v17]) (((x_going).1)) (((x_going).2.1)) (((x_going).2.2)) (fun (v15 : Int) (v16 : (List Nat)) (v17 : Int) => (ok_is_going_2 (x_colours) (x_two) (v15) (v16) (v17))) hk rfl (fun v15 v16 v17 hs14 => (dss_one (ds_ret (de_and (de_cmp (dc_inD (t := .int) hr (lay_no _ rfl _) (fun _ _ => lay_no _ rfl _) (de_var 3 rfl) (dq_U (du_of (de_tupH (dls_cons de_int (dls_cons (de_neg de_int) dls_nil (hs := by rfl)) (hs := by rfl)) (hz := by exact sz_of rfl)))) (he := by rfl) (hd := by decide)) (h1 := by first | exact nobehind _ (by decide) (by decide) | rfl)) (fun hb10 => (de_and (de_cmp (dc_eqS (t := .int) (de_lenS B.z_len (hs14.1 hb10).1 (de_var 4 rfl) (hg := by rfl) (hs := by rfl) (hpl := by rfl)) de_int (hs := by rfl)) (h1 := by first | exact nobehind _ (by decide) (by decide) | rfl)) (fun hb11 => (de_and (de_cmp (dc_inS (de_var 4 rfl) (de_var 0 rfl)) (h1 := by first | exact nobehind _ (by decide) (by decide) | rfl)) (fun hb12 => (de_one (de_chain ic_le ic_lt de_int (de_var 5 rfl) (fun hb13 => (de_len (t := (.p2 .bool (.tup (.p3 .int .str .int)))) B.z_len (dq_U (du_of (de_var 1 rfl))) (hg := by rfl) (hs := by rfl) (hpl := by rfl))) (hm := by with_unfolding_all rfl)))) (fun _ => rfl))) (fun _ => rfl))) (fun _ => rfl))))) rfl)) rets_rt h (hΓ := by rfl) (hl := by exact Nat.le_of_ble_eq_true rfl))
abbrev st_is_two_way : Stmt := top 2
def pr_is_two_way (K : PySem.W.Frag) : Sp := fun vs H Q E => ∃ (x_colours : (List Nat)) (x_two : (List (Bool × (List (Int × (List Nat) × Int))))), ok_is_two_way x_colours x_two ∧ Pm0 K [.fr .str x_colours, .fr (.tup (.p2 .bool (.tup (.p3 .int .str .int)))) x_two] (.fr .bool (m_is_two_way x_colours x_two)) vs H Q E
theorem sc_is_two_way : FnScope ["colours", "two", "every", "mark", "goes", "going"] ["colours", "two"] (defScope st_is_two_way) := ⟨rfl, rfl, rfl, by decide +kernel, rfl, by decide +kernel, by decide +kernel⟩
theorem w_is_two_way {P : Program} {w : World} {K : PySem.W.Frag} {mg : Str → Option Value} {base : Heap} (B : Bt mg) (C_is_going : Cl P w K mg base 1 "is_going" ["colours", "two", "going"] (pr_is_going K)) {f : Addr} {fd : FuncData} (F : Fun K "is_two_way" "is_two_way" st_is_two_way f fd) : FnOk P w K mg base CX0 2 f fd ["colours", "two"] (pr_is_two_way K) :=
  F.ok sc_is_two_way (fun vs H Q E h => by obtain ⟨x_colours, x_two, _, h⟩ := h; exact pm0_len h) (fun cdv A outer s H vs Q E hr h => by
    obtain ⟨x_colours, x_two, hk, h⟩ := h
    refine ⟨_, pss_wp, ?_⟩
    refine body_F (Γ0 := [.fr .str x_colours, .fr (.tup (.p2 .bool (.tup (.p3 .int .str .int)))) x_two, .un, .un, .un, .un]) (d := default) (dss_cons (ds_setO 2 (do_lst (t := (.p3 .int .str .int)) dls_nil (hz := by exact sz_of rfl)) sc_is_two_way.nd) (cont_let1 (fun (v25 : (List (Int × (List Nat) × Int))) => [.fr .str x_colours, .fr (.tup (.p2 .bool (.tup (.p3 .int .str .int)))) x_two, .ow false (.lst (.p3 .int .str .int) v25), .un, .un, .un]) (([] : List (Int × (List Nat) × Int))) (fun (v25 : (List (Int × (List Nat) × Int))) => (ok_is_two_way_1 (x_colours) (x_two) (v25))) hk rfl (fun v25 hs24 => (dss_cons (ds_for (fun (s12 : (List (Int × (List Nat) × Int))) => [.fr .str (x_colours), .fr (.tup (.p2 .bool (.tup (.p3 .int .str .int)))) (x_two), .ow false (.lst (.p3 .int .str .int) s12), .un, .un, .un]) (s0 := (v25)) (f := m_is_two_way_L6) (P := ok_is_two_way_L6) (di_tup (de_var 1 rfl) (eg_2 3 4 .bool (.tup (.p3 .int .str .int)))) ent_refl hs24.1 ?b4 (pg_tup rfl (pgs_cons (pg_name (i := 3) sc_is_two_way.nd rfl (by first | exact Or.inl rfl | exact Or.inr rfl)) (pgs_cons (pg_name (i := 4) sc_is_two_way.nd rfl (by first | exact Or.inl rfl | exact Or.inr rfl)) pgs_nil))) PassesOwn.never (hc := by rfl) (hs := by intro _; rfl)) (cont_let1 (fun (v23 : (List (Int × (List Nat) × Int))) => [.fr .str (x_colours), .fr (.tup (.p2 .bool (.tup (.p3 .int .str .int)))) (x_two), .ow false (.lst (.p3 .int .str .int) v23), .un, .un, .un]) ((((x_two)).foldl m_is_two_way_L6 (v25))) (fun (v23 : (List (Int × (List Nat) × Int))) => (ok_is_two_way_14 ((x_colours)) ((x_two)) (v23))) hs24.2 rfl (fun v23 hs22 => (dss_ent (ent_trans (ent_frz 2 rfl) ent_refl) (dss_one (ds_ret (de_and (de_cmp (dc_gt (de_len (t := (.p2 .bool (.tup (.p3 .int .str .int)))) B.z_len (dq_U (du_of (de_var 1 rfl))) (hg := by rfl) (hs := by rfl) (hpl := by rfl)) de_int) (h1 := by first | exact nobehind _ (by decide) (by decide) | rfl)) (fun hb19 => (de_one (de_all B.z_all (dl_O (do_lc (lcq_map (t := .bool) [("going", 5)] (P := (fun (y20 : (Int × (List Nat) × Int)) => ((ok_is_going ((x_colours)) ((x_two)) y20) ∧ True))) (h := fun (y20 : (Int × (List Nat) × Int)) => (m_is_going ((x_colours)) ((x_two)) y20)) (di_list (de_var 2 rfl) (eg_name 5 (.p3 .int .str .int))) (fun _ _ _ _ _ => (pg_name (i := 5) sc_is_two_way.nd rfl (by first | exact Or.inl rfl | exact Or.inr rfl))) (hs22.1 hb19).1 (hs22.1 hb19).2.1 ?b5 (show BlkOk ["colours", "two", "every", "mark", "goes", "going"] (defScope st_is_two_way) _ _ from ⟨rfl, by decide +kernel, by decide +kernel, by decide +kernel, by decide +kernel⟩) (hw := by rfl) (htg := by decide)) sc_is_two_way.nd (hc := by rfl) (hs := by intro _; rfl))) (hc := by rfl) (hg := by rfl) (hs := by rfl) (hpl := by rfl)))) (fun _ => rfl)))))) rfl))) rfl)) rets_rt h (hΓ := by rfl) (hl := by exact Nat.le_of_ble_eq_true rfl)
    case b4 =>
      exact (fun s7 y8 H9 => ⟨_, (dss_one (ds_extU 2 H9.1 (du_of (de_var 4 rfl)) (h := rfl) (h0 := by rfl) (hN := by rfl) (hv := by first | exact Or.inl rfl | exact Or.inr (Or.inl rfl) | exact Or.inr (Or.inr rfl)) (hd := by decide) (hcd := by decide) (hbase := by rfl) (hfew := by rfl) (hline := by rfl) (hs := by rfl) (hpl := by rfl) (hsw := by rfl))), (tn_nx (ent_wk (.eq (.eq (.eq (.un (.un (.eq (.nil)))))))))⟩)
    case b5 =>
      exact (fun y20 hP21 => ⟨_, _, (fun _ _ _ _ _ => (cl_call C_is_going (hr.mono (by decide)) (fun _ _ _ h => ⟨_, _, _, hP21.1, h⟩) (da_cons (de_var 0 rfl) (da_cons (de_var 1 rfl) (da_cons (de_var 5 rfl) da_nil (hs := by rfl)) (hs := by rfl)) (hs := by rfl)) (hf := by rfl) (hg := by rfl) (hdb := by decide) (he := by rfl) (hpl := by rfl))), (.eq (.eq (.eq (.eq (.eq (.un (.nil))))))), rfl⟩))
abbrev st__law_bent : Stmt := top 8
def pr__law_bent (K : PySem.W.Frag) : Sp := fun vs H Q E => ∃ (x_law_box_here : (List Int)) (x_law_colours_here : (List Nat)) (x_law_two_here : (List (Bool × (List (Int × (List Nat) × Int))))), ok__law_bent x_law_box_here x_law_colours_here x_law_two_here ∧ Pm1 K (.lst .int x_law_box_here) (.lst .int (m__law_bent x_law_box_here x_law_colours_here x_law_two_here).2) [.fr .str x_law_colours_here, .fr (.tup (.p2 .bool (.tup (.p3 .int .str .int)))) x_law_two_here] (.fr (.tup (.p2 .bool (.tup (.p3 .int .str .int)))) (m__law_bent x_law_box_here x_law_colours_here x_law_two_here).1) vs H Q E
theorem sc__law_bent : FnScope ["_law_box_here", "_law_colours_here", "_law_two_here", "_law_k", "_law_mark", "_law_goes", "_law_at", "_law_way", "_law_colour", "_law_goal", "_law_kind", "_law_rest", "_law_other", "_law_one"] ["_law_box_here", "_law_colours_here", "_law_two_here"] (defScope st__law_bent) := ⟨rfl, rfl, rfl, by decide +kernel, rfl, by decide +kernel, by decide +kernel⟩
theorem w__law_bent {P : Program} {w : World} {K : PySem.W.Frag} {mg : Str → Option Value} {base : Heap} (B : Bt mg) (C__law_take : Cl P w K mg base 1 "_law_take" ["_law_box_here", "_law_many"] (pr__law_take K)) {f : Addr} {fd : FuncData} (F : Fun K "_law_bent" "_law_bent" st__law_bent f fd) : FnOk P w K mg base CX0 2 f fd ["_law_box_here", "_law_colours_here", "_law_two_here"] (pr__law_bent K) :=
  F.ok sc__law_bent (fun vs H Q E h => by obtain ⟨x_law_box_here, x_law_colours_here, x_law_two_here, _, h⟩ := h; exact pm1_len h) (fun cdv A outer s H vs Q E hr h => by
    obtain ⟨x_law_box_here, x_law_colours_here, x_law_two_here, hk, h⟩ := h
    refine ⟨_, pss_wp, ?_⟩
    refine body_B (Γ0 := [.ow true (.lst .int x_law_box_here), .fr .str x_law_colours_here, .fr (.tup (.p2 .bool (.tup (.p3 .int .str .int)))) x_law_two_here, .un, .un, .un, .un, .un, .un, .un, .un, .un, .un, .un]) (d := default) (dss_cons (ds_set 3 (cl_callB 0 C__law_take (hr.mono (by decide)) (fun _ _ _ h => ⟨_, _, hk.1, h⟩) (da_box 0 (da_cons (de_len (t := (.p2 .bool (.tup (.p3 .int .str .int)))) B.z_len (dq_U (du_of (de_var 2 rfl))) (hg := by rfl) (hs := by rfl) (hpl := by rfl)) da_nil (hs := by rfl))) (hi := rfl) (hf := by rfl) (hg := by rfl) (hdb := by decide) (he := by rfl) (hpl := by rfl)) sc__law_bent.nd) (cont_let2 (fun (v167 : (List Int)) (v168 : Int) => [.ow true (.lst .int v167), .fr .str x_law_colours_here, .fr (.tup (.p2 .bool (.tup (.p3 .int .str .int)))) x_law_two_here, .fr .int v168, .un, .un, .un, .un, .un, .un, .un, .un, .un, .un]) (((m__law_take x_law_box_here ((x_law_two_here).length : Int))).2) (((m__law_take x_law_box_here ((x_law_two_here).length : Int))).1) (fun (v167 : (List Int)) (v168 : Int) => (ok__law_bent_2 (v167) (x_law_colours_here) (x_law_two_here) (v168))) hk.2 rfl (fun v167 v168 hs166 => (dss_cons (ds_unpack (de_ixU (t := (.p2 .bool (.tup (.p3 .int .str .int)))) (default : (Bool × (List (Int × (List Nat) × Int)))) hs166.1 (de_var 2 rfl) (de_var 3 rfl) (hs := by exact fun _ _ => rfl)) (eg_2 4 5 .bool (.tup (.p3 .int .str .int))) (pg_tup rfl (pgs_cons (pg_name (i := 4) sc__law_bent.nd rfl (by first | exact Or.inl rfl | exact Or.inr rfl)) (pgs_cons (pg_name (i := 5) sc__law_bent.nd rfl (by first | exact Or.inl rfl | exact Or.inr rfl)) pgs_nil))) (hs := by rfl) (hw := by rfl) (h1 := by rfl)) (cont_let2 (fun (v164 : Bool) (v165 : (List (Int × (List Nat) × Int))) => [.ow true (.lst .int (v167)), .fr .str (x_law_colours_here), .fr (.tup (.p2 .bool (.tup (.p3 .int .str .int)))) (x_law_two_here), .fr .int (v168), .fr .bool v164, .fr (.tup (.p3 .int .str .int)) v165, .un, .un, .un, .un, .un, .un, .un, .un]) ((((Dn.get (default : (Bool × (List (Int × (List Nat) × Int)))) (x_law_two_here) (v168))).1)) ((((Dn.get (default : (Bool × (List (Int × (List Nat) × Int)))) (x_law_two_here) (v168))).2)) (fun (v164 : Bool) (v165 : (List (Int × (List Nat) × Int))) => (ok__law_bent_9 ((v167)) ((x_law_colours_here)) ((x_law_two_here)) ((v168)) (v164) (v165))) hs166.2 rfl (fun v164 v165 hs163 => (dss_cons (ds_set 6 (cl_callB 0 C__law_take (hr.mono (by decide)) (fun _ _ _ h => ⟨_, _, hs163.1, h⟩) (da_box 0 (da_cons (de_min2 B.z_min (de_add (de_len (t := (.p3 .int .str .int)) B.z_len (dq_U (du_of (de_var 5 rfl))) (hg := by rfl) (hs := by rfl) (hpl := by rfl)) de_int) de_int (hc := by rfl) (hg := by rfl) (hs := by rfl) (hs2 := by rfl) (hpl := by rfl)) da_nil (hs := by rfl))) (hi := rfl) (hf := by rfl) (hg := by rfl) (hdb := by decide) (he := by rfl) (hpl := by rfl)) sc__law_bent.nd) (cont_let2 (fun (v161 : (List Int)) (v162 : Int) => [.ow true (.lst .int v161), .fr .str ((x_law_colours_here)), .fr (.tup (.p2 .bool (.tup (.p3 .int .str .int)))) ((x_law_two_here)), .fr .int ((v168)), .fr .bool (v164), .fr (.tup (.p3 .int .str .int)) (v165), .fr .int v162, .un, .un, .un, .un, .un, .un, .un]) (((m__law_take ((v167)) (min ((((v165)).length : Int) + (1 : Int)) (5 : Int)))).2) (((m__law_take ((v167)) (min ((((v165)).length : Int) + (1 : Int)) (5 : Int)))).1) (fun (v161 : (List Int)) (v162 : Int) => (ok__law_bent_18 (v161) (((x_law_colours_here))) (((x_law_two_here))) (((v168))) ((v164)) ((v165)) (v162))) hs163.2 rfl (fun v161 v162 hs160 => (dss_cons (ds_unpack (de_ixU (t := (.p3 .int .str .int)) (default : (Int × (List Nat) × Int)) hs160.2.2.2.1 (de_catU hs160.2.2.1 (de_var 5 rfl) (de_tupH (dls_cons (de_t3 de_int (de_ixS hs160.1 hs160.2.1 (de_var 1 rfl) de_int (hs := by exact fun _ _ => rfl)) de_int (hs := by rfl) (hs2 := by rfl) (hs3 := by rfl)) dls_nil (hs := by rfl)) (hz := by exact sz_of rfl))) (de_var 6 rfl) (hs := by exact fun _ _ => rfl)) (eg_3 7 8 9 .int .str .int) (pg_tup rfl (pgs_cons (pg_name (i := 7) sc__law_bent.nd rfl (by first | exact Or.inl rfl | exact Or.inr rfl)) (pgs_cons (pg_name (i := 8) sc__law_bent.nd rfl (by first | exact Or.inl rfl | exact Or.inr rfl)) (pgs_cons (pg_name (i := 9) sc__law_bent.nd rfl (by first | exact Or.inl rfl | exact Or.inr rfl)) pgs_nil)))) (hs := by rfl) (hw := by rfl) (h1 := by rfl)) (cont_let3 (fun (v157 : Int) (v158 : (List Nat)) (v159 : Int) => [.ow true (.lst .int (v161)), .fr .str (((x_law_colours_here))), .fr (.tup (.p2 .bool (.tup (.p3 .int .str .int)))) (((x_law_two_here))), .fr .int (((v168))), .fr .bool ((v164)), .fr (.tup (.p3 .int .str .int)) ((v165)), .fr .int (v162), .fr .int v157, .fr .str v158, .fr .int v159, .un, .un, .un, .un]) ((((Dn.get (default : (Int × (List Nat) × Int)) (((v165)) ++ [((1 : Int), [Dn.get 0 (((x_law_colours_here))) (0 : Int)], (0 : Int))]) (v162))).1)) ((((Dn.get (default : (Int × (List Nat) × Int)) (((v165)) ++ [((1 : Int), [Dn.get 0 (((x_law_colours_here))) (0 : Int)], (0 : Int))]) (v162))).2.1)) ((((Dn.get (default : (Int × (List Nat) × Int)) (((v165)) ++ [((1 : Int), [Dn.get 0 (((x_law_colours_here))) (0 : Int)], (0 : Int))]) (v162))).2.2)) (fun (v157 : Int) (v158 : (List Nat)) (v159 : Int) => (ok__law_bent_28 ((v161)) ((((x_law_colours_here)))) ((((x_law_two_here)))) ((((v168)))) (((v164))) (((v165))) ((v162)) (v157) (v158) (v159))) hs160.2.2.2.2 rfl (fun v157 v158 v159 hs156 => (dss_cons (ds_set 10 (cl_callB 0 C__law_take (hr.mono (by decide)) (fun _ _ _ h => ⟨_, _, hs156.1, h⟩) (da_box 0 (da_cons de_int da_nil (hs := by rfl))) (hi := rfl) (hf := by rfl) (hg := by rfl) (hdb := by decide) (he := by rfl) (hpl := by rfl)) sc__law_bent.nd) (cont_let2 (fun (v154 : (List Int)) (v155 : Int) => [.ow true (.lst .int v154), .fr .str ((((x_law_colours_here)))), .fr (.tup (.p2 .bool (.tup (.p3 .int .str .int)))) ((((x_law_two_here)))), .fr .int ((((v168)))), .fr .bool (((v164))), .fr (.tup (.p3 .int .str .int)) (((v165))), .fr .int ((v162)), .fr .int (v157), .fr .str (v158), .fr .int (v159), .fr .int v155, .un, .un, .un]) (((m__law_take ((v161)) (4 : Int))).2) (((m__law_take ((v161)) (4 : Int))).1) (fun (v154 : (List Int)) (v155 : Int) => (ok__law_bent_41 (v154) (((((x_law_colours_here))))) (((((x_law_two_here))))) (((((v168))))) ((((v164)))) ((((v165)))) (((v162))) ((v157)) ((v158)) ((v159)) (v155))) hs156.2 rfl (fun v154 v155 hs153 => (dss_cons (ds_joinE (fun (s58 : ((List Int) × Int)) => [.ow true (.lst .int s58.1), .fr .str (((((x_law_colours_here))))), .fr (.tup (.p2 .bool (.tup (.p3 .int .str .int)))) (((((x_law_two_here))))), .fr .int (((((v168))))), .fr .bool ((((v164)))), .fr (.tup (.p3 .int .str .int)) ((((v165)))), .fr .int (((v162))), .fr .int s58.2, .fr .str ((v158)), .fr .int ((v159)), .fr .int (v155), .un, .un, .un]) (bif (decide ((v155) = (0 : Int))) then (let t55 := (m__law_take (v154) (6 : Int)); (t55.2, (Dn.get (default : Int) ([(0 : Int), (2 : Int), (-(2 : Int)), (1 : Int), (-(1 : Int)), ((10 : Int) ^ Int.toNat (20 : Int))] : List Int) t55.1))) else ((v154), ((v157)))) rfl (ds_if (dt_cmp (dc_eqS (t := .int) (de_var 10 rfl) de_int (hs := by rfl)) (h1 := by first | exact nobehind _ (by decide) (by decide) | rfl)) (fun hb54 => (dss_one (ds_set 7 (de_ixL (t := .int) (default : Int) (hs153.1 hb54).2.1 (de_frz (do_lst (t := .int) (dls_cons de_int (dls_cons de_int (dls_cons (de_neg de_int) (dls_cons de_int (dls_cons (de_neg de_int) (dls_cons (de_pow (i := (10 : Int)) (j := (20 : Int)) ⟨by decide, by decide, by decide⟩ de_int de_int) dls_nil (hs := by rfl)) (hs := by rfl)) (hs := by rfl)) (hs := by rfl)) (hs := by rfl)) (hs := by rfl)) (hz := by exact sz_of rfl))) (cl_callB 0 C__law_take (hr.mono (by decide)) (fun _ _ _ h => ⟨_, _, (hs153.1 hb54).1, h⟩) (da_box 0 (da_cons de_int da_nil (hs := by rfl))) (hi := rfl) (hf := by rfl) (hg := by rfl) (hdb := by decide) (he := by rfl) (hpl := by rfl)) (hs := by exact fun _ _ => rfl)) sc__law_bent.nd))) (fun hb56 => dss_nil)) (Nx.br (fun _ => (Nx.nx ent_refl)) (fun _ => (Nx.nx ent_refl)))) (cont_let2 (fun (v151 : (List Int)) (v152 : Int) => [.ow true (.lst .int v151), .fr .str (((((x_law_colours_here))))), .fr (.tup (.p2 .bool (.tup (.p3 .int .str .int)))) (((((x_law_two_here))))), .fr .int (((((v168))))), .fr .bool ((((v164)))), .fr (.tup (.p3 .int .str .int)) ((((v165)))), .fr .int (((v162))), .fr .int v152, .fr .str ((v158)), .fr .int ((v159)), .fr .int (v155), .un, .un, .un]) (((bif (decide ((v155) = (0 : Int))) then (let t55 := (m__law_take (v154) (6 : Int)); (t55.2, (Dn.get (default : Int) ([(0 : Int), (2 : Int), (-(2 : Int)), (1 : Int), (-(1 : Int)), ((10 : Int) ^ Int.toNat (20 : Int))] : List Int) t55.1))) else ((v154), ((v157))))).1) (((bif (decide ((v155) = (0 : Int))) then (let t55 := (m__law_take (v154) (6 : Int)); (t55.2, (Dn.get (default : Int) ([(0 : Int), (2 : Int), (-(2 : Int)), (1 : Int), (-(1 : Int)), ((10 : Int) ^ Int.toNat (20 : Int))] : List Int) t55.1))) else ((v154), ((v157))))).2) (fun (v151 : (List Int)) (v152 : Int) => (ok__law_bent_59 (v151) ((((((x_law_colours_here)))))) ((((((x_law_two_here)))))) ((((((v168)))))) (((((v164))))) (((((v165))))) ((((v162)))) (v152) (((v158))) (((v159))) ((v155)))) hs153.2 rfl (fun v151 v152 hs150 => (dss_cons (ds_joinE (fun (s96 : ((List Int) × (List Nat))) => [.ow true (.lst .int s96.1), .fr .str ((((((x_law_colours_here)))))), .fr (.tup (.p2 .bool (.tup (.p3 .int .str .int)))) ((((((x_law_two_here)))))), .fr .int ((((((v168)))))), .fr .bool (((((v164))))), .fr (.tup (.p3 .int .str .int)) (((((v165))))), .fr .int ((((v162)))), .fr .int (v152), .fr .str s96.2, .fr .int (((v159))), .fr .int ((v155)), .un, .un, .un]) (bif (decide (((v155)) = (1 : Int))) then (m__law_bent_76 ((v151)) (((((((x_law_colours_here))))))) ((((v158)))) (((List.filter (fun (y73 : (List Nat)) => (!(sfind ((((((x_law_colours_here)))))) y73).isSome)) (chars ([97, 98, 99, 100, 101, 102, 103, 104, 105, 106, 107, 108, 109, 110, 111, 112, 113, 114, 115, 116, 117, 118, 119, 120, 121, 122] : List Nat))).map (fun (y73 : (List Nat)) => y73)))) else ((v151), (((v158))))) rfl (ds_if (dt_cmp (dc_eqS (t := .int) (de_var 10 rfl) de_int (hs := by rfl)) (h1 := by first | exact nobehind _ (by decide) (by decide) | rfl)) (fun hb72 => (dss_cons (ds_frz 11 (ds_lc 11 (lcq_filt (t := .str) [("_law_one", 13)] (P := (fun (y73 : (List Nat)) => True)) (c := fun (y73 : (List Nat)) => (!(sfind ((((((x_law_colours_here)))))) y73).isSome)) (h := fun (y73 : (List Nat)) => y73) (di_str (de_str [97, 98, 99, 100, 101, 102, 103, 104, 105, 106, 107, 108, 109, 110, 111, 112, 113, 114, 115, 116, 117, 118, 119, 120, 121, 122]) (eg_name 13 .str)) (fun _ _ _ _ _ => (pg_name (i := 13) sc__law_bent.nd rfl (by first | exact Or.inl rfl | exact Or.inr rfl))) (hs150.1 hb72).1 (fun _ _ => trivial) ?b6 (show BlkOk ["_law_box_here", "_law_colours_here", "_law_two_here", "_law_k", "_law_mark", "_law_goes", "_law_at", "_law_way", "_law_colour", "_law_goal", "_law_kind", "_law_rest", "_law_other", "_law_one"] (defScope st__law_bent) _ _ from ⟨rfl, by decide +kernel, by decide +kernel, by decide +kernel, by decide +kernel⟩) (hw := by rfl) (htg := by decide)) sc__law_bent.nd (hy := by rfl) (hyl := by rfl) (hsw := by exact sw_true rfl rfl rfl (by decide +kernel)) (hc := by rfl) (hs := by intro _; rfl)) (hi := rfl)) (cont_let1 (fun (v93 : (List (List Nat))) => [.ow true (.lst .int (v151)), .fr .str ((((((x_law_colours_here)))))), .fr (.tup (.p2 .bool (.tup (.p3 .int .str .int)))) ((((((x_law_two_here)))))), .fr .int ((((((v168)))))), .fr .bool (((((v164))))), .fr (.tup (.p3 .int .str .int)) (((((v165))))), .fr .int ((((v162)))), .fr .int (v152), .fr .str (((v158))), .fr .int (((v159))), .fr .int ((v155)), .fr (.lst .str) v93, .un, .un]) (((List.filter (fun (y73 : (List Nat)) => (!(sfind ((((((x_law_colours_here)))))) y73).isSome)) (chars ([97, 98, 99, 100, 101, 102, 103, 104, 105, 106, 107, 108, 109, 110, 111, 112, 113, 114, 115, 116, 117, 118, 119, 120, 121, 122] : List Nat))).map (fun (y73 : (List Nat)) => y73))) (fun (v93 : (List (List Nat))) => (ok__law_bent_76 ((v151)) (((((((x_law_colours_here))))))) ((((v158)))) (v93))) (hs150.1 hb72).2 rfl (fun v93 hs92 => (dss_one (ds_set 8 (de_ixL (t := .str) (default : (List Nat)) hs92.2.2.2.2.1 (de_frz (do_lst (t := .str) (dls_cons (de_str []) (dls_cons (de_var 1 rfl) (dls_cons (de_cat hs92.1 (de_var 8 rfl) (de_var 8 rfl)) (dls_cons (de_ixL (t := .str) (default : (List Nat)) hs92.2.2.1 (de_var 11 rfl) (cl_callB 0 C__law_take (hr.mono (by decide)) (fun _ _ _ h => ⟨_, _, hs92.2.1, h⟩) (da_box 0 (da_cons (de_len (t := .str) B.z_len (dq_L (dl_of (de_var 11 rfl))) (hg := by rfl) (hs := by rfl) (hpl := by rfl)) da_nil (hs := by rfl))) (hi := rfl) (hf := by rfl) (hg := by rfl) (hdb := by decide) (he := by rfl) (hpl := by rfl)) (hs := by exact fun _ _ => rfl)) (dls_cons (de_str [65]) dls_nil (hs := by rfl)) (hs := by rfl)) (hs := by rfl)) (hs := by rfl)) (hs := by rfl)) (hz := by exact sz_of rfl))) (cl_callB 0 C__law_take (hr.mono (by decide)) (fun _ _ _ h => ⟨_, _, hs92.2.2.2.1, h⟩) (da_box 0 (da_cons de_int da_nil (hs := by rfl))) (hi := rfl) (hf := by rfl) (hg := by rfl) (hdb := by decide) (he := by rfl) (hpl := by rfl)) (hs := by exact fun _ _ => rfl)) sc__law_bent.nd))) rfl))) (fun hb94 => dss_nil)) (Nx.br (fun _ => (Nx.nx (ent_wk (.eq (.eq (.eq (.eq (.eq (.eq (.eq (.eq (.eq (.eq (.eq (.un (.eq (.eq (.nil)))))))))))))))))) (fun _ => (Nx.nx ent_refl)))) (cont_let2 (fun (v148 : (List Int)) (v149 : (List Nat)) => [.ow true (.lst .int v148), .fr .str ((((((x_law_colours_here)))))), .fr (.tup (.p2 .bool (.tup (.p3 .int .str .int)))) ((((((x_law_two_here)))))), .fr .int ((((((v168)))))), .fr .bool (((((v164))))), .fr (.tup (.p3 .int .str .int)) (((((v165))))), .fr .int ((((v162)))), .fr .int (v152), .fr .str v149, .fr .int (((v159))), .fr .int ((v155)), .un, .un, .un]) (((bif (decide (((v155)) = (1 : Int))) then (m__law_bent_76 ((v151)) (((((((x_law_colours_here))))))) ((((v158)))) (((List.filter (fun (y73 : (List Nat)) => (!(sfind ((((((x_law_colours_here)))))) y73).isSome)) (chars ([97, 98, 99, 100, 101, 102, 103, 104, 105, 106, 107, 108, 109, 110, 111, 112, 113, 114, 115, 116, 117, 118, 119, 120, 121, 122] : List Nat))).map (fun (y73 : (List Nat)) => y73)))) else ((v151), (((v158)))))).1) (((bif (decide (((v155)) = (1 : Int))) then (m__law_bent_76 ((v151)) (((((((x_law_colours_here))))))) ((((v158)))) (((List.filter (fun (y73 : (List Nat)) => (!(sfind ((((((x_law_colours_here)))))) y73).isSome)) (chars ([97, 98, 99, 100, 101, 102, 103, 104, 105, 106, 107, 108, 109, 110, 111, 112, 113, 114, 115, 116, 117, 118, 119, 120, 121, 122] : List Nat))).map (fun (y73 : (List Nat)) => y73)))) else ((v151), (((v158)))))).2) (fun (v148 : (List Int)) (v149 : (List Nat)) => (ok__law_bent_97 (v148) (((((((x_law_two_here))))))) (((((((v168))))))) ((((((v164)))))) ((((((v165)))))) (((((v162))))) ((v152)) (v149) ((((v159)))) (((v155))))) hs150.2 rfl (fun v148 v149 hs147 => (dss_cons (ds_joinE (fun (s114 : ((List Int) × Int)) => [.ow true (.lst .int s114.1), .fr .str (((((((x_law_colours_here))))))), .fr (.tup (.p2 .bool (.tup (.p3 .int .str .int)))) (((((((x_law_two_here))))))), .fr .int (((((((v168))))))), .fr .bool ((((((v164)))))), .fr (.tup (.p3 .int .str .int)) ((((((v165)))))), .fr .int (((((v162))))), .fr .int ((v152)), .fr .str (v149), .fr .int s114.2, .fr .int (((v155))), .un, .un, .un]) (bif (decide ((1 : Int) < (((v155))))) then (let t111 := (m__law_take (v148) (5 : Int)); (t111.2, (Dn.get (default : Int) ([(((((((((x_law_two_here)))))))).length : Int), (-(1 : Int)), ((((((((((x_law_two_here)))))))).length : Int) - (1 : Int)), ((10 : Int) ^ Int.toNat (20 : Int)), (-(((((((((x_law_two_here)))))))).length : Int))] : List Int) t111.1))) else ((v148), ((((v159)))))) rfl (ds_if (dt_cmp (dc_gt (de_var 10 rfl) de_int) (h1 := by first | exact nobehind _ (by decide) (by decide) | rfl)) (fun hb110 => (dss_one (ds_set 9 (de_ixL (t := .int) (default : Int) (hs147.1 hb110).2.1 (de_frz (do_lst (t := .int) (dls_cons (de_len (t := (.p2 .bool (.tup (.p3 .int .str .int)))) B.z_len (dq_U (du_of (de_var 2 rfl))) (hg := by rfl) (hs := by rfl) (hpl := by rfl)) (dls_cons (de_neg de_int) (dls_cons (de_sub (de_len (t := (.p2 .bool (.tup (.p3 .int .str .int)))) B.z_len (dq_U (du_of (de_var 2 rfl))) (hg := by rfl) (hs := by rfl) (hpl := by rfl)) de_int) (dls_cons (de_pow (i := (10 : Int)) (j := (20 : Int)) ⟨by decide, by decide, by decide⟩ de_int de_int) (dls_cons (de_neg (de_len (t := (.p2 .bool (.tup (.p3 .int .str .int)))) B.z_len (dq_U (du_of (de_var 2 rfl))) (hg := by rfl) (hs := by rfl) (hpl := by rfl))) dls_nil (hs := by rfl)) (hs := by rfl)) (hs := by rfl)) (hs := by rfl)) (hs := by rfl)) (hz := by exact sz_of rfl))) (cl_callB 0 C__law_take (hr.mono (by decide)) (fun _ _ _ h => ⟨_, _, (hs147.1 hb110).1, h⟩) (da_box 0 (da_cons de_int da_nil (hs := by rfl))) (hi := rfl) (hf := by rfl) (hg := by rfl) (hdb := by decide) (he := by rfl) (hpl := by rfl)) (hs := by exact fun _ _ => rfl)) sc__law_bent.nd))) (fun hb112 => dss_nil)) (Nx.br (fun _ => (Nx.nx ent_refl)) (fun _ => (Nx.nx ent_refl)))) (cont_let2 (fun (v145 : (List Int)) (v146 : Int) => [.ow true (.lst .int v145), .fr .str (((((((x_law_colours_here))))))), .fr (.tup (.p2 .bool (.tup (.p3 .int .str .int)))) (((((((x_law_two_here))))))), .fr .int (((((((v168))))))), .fr .bool ((((((v164)))))), .fr (.tup (.p3 .int .str .int)) ((((((v165)))))), .fr .int (((((v162))))), .fr .int ((v152)), .fr .str (v149), .fr .int v146, .fr .int (((v155))), .un, .un, .un]) (((bif (decide ((1 : Int) < (((v155))))) then (let t111 := (m__law_take (v148) (5 : Int)); (t111.2, (Dn.get (default : Int) ([(((((((((x_law_two_here)))))))).length : Int), (-(1 : Int)), ((((((((((x_law_two_here)))))))).length : Int) - (1 : Int)), ((10 : Int) ^ Int.toNat (20 : Int)), (-(((((((((x_law_two_here)))))))).length : Int))] : List Int) t111.1))) else ((v148), ((((v159))))))).1) (((bif (decide ((1 : Int) < (((v155))))) then (let t111 := (m__law_take (v148) (5 : Int)); (t111.2, (Dn.get (default : Int) ([(((((((((x_law_two_here)))))))).length : Int), (-(1 : Int)), ((((((((((x_law_two_here)))))))).length : Int) - (1 : Int)), ((10 : Int) ^ Int.toNat (20 : Int)), (-(((((((((x_law_two_here)))))))).length : Int))] : List Int) t111.1))) else ((v148), ((((v159))))))).2) (fun (v145 : (List Int)) (v146 : Int) => (ok__law_bent_115 (v145) ((((((((x_law_two_here)))))))) ((((((((v168)))))))) (((((((v164))))))) (((((((v165))))))) ((((((v162)))))) (((v152))) ((v149)) (v146))) hs147.2 rfl (fun v145 v146 hs144 => (dss_cons (ds_set 12 (de_catU hs144.2.1 (de_catU hs144.1 (de_slU (de_var 5 rfl) dp_none (dp_some (de_var 6 rfl))) (de_tupH (dls_cons (de_t3 (de_var 7 rfl) (de_var 8 rfl) (de_var 9 rfl) (hs := by rfl) (hs2 := by rfl) (hs3 := by rfl)) dls_nil (hs := by rfl)) (hz := by exact sz_of rfl))) (de_slU (de_var 5 rfl) (dp_some (de_add (de_var 6 rfl) de_int)) dp_none)) sc__law_bent.nd) (cont_let1 (fun (v143 : (List (Int × (List Nat) × Int))) => [.ow true (.lst .int (v145)), .fr .str ((((((((x_law_colours_here)))))))), .fr (.tup (.p2 .bool (.tup (.p3 .int .str .int)))) ((((((((x_law_two_here)))))))), .fr .int ((((((((v168)))))))), .fr .bool (((((((v164))))))), .fr (.tup (.p3 .int .str .int)) (((((((v165))))))), .fr .int ((((((v162)))))), .fr .int (((v152))), .fr .str ((v149)), .fr .int (v146), .fr .int ((((v155)))), .un, .fr (.tup (.p3 .int .str .int)) v143, .un]) ((((cut (((((((v165))))))) none (some ((((((v162)))))))) ++ [((((v152))), ((v149)), (v146))]) ++ (cut (((((((v165))))))) (some (((((((v162)))))) + (1 : Int))) none))) (fun (v143 : (List (Int × (List Nat) × Int))) => (ok__law_bent_128 ((v145)) (((((((((x_law_two_here))))))))) (((((((((v168))))))))) ((((((((v164)))))))) (v143))) hs144.2.2 rfl (fun v143 hs142 => (dss_one (ds_retB (de_catU hs142.2.1 (de_catU hs142.1 (de_slU (de_var 2 rfl) dp_none (dp_some (de_var 3 rfl))) (de_tupH (dls_cons (de_t2 (de_var 4 rfl) (de_var 12 rfl) (hs := by rfl) (hs2 := by rfl)) dls_nil (hs := by rfl)) (hz := by exact sz_of rfl))) (de_slU (de_var 2 rfl) (dp_some (de_add (de_var 3 rfl) de_int)) dp_none)) (h0 := rfl)))) rfl))) rfl))) rfl))) rfl))) rfl))) rfl))) rfl))) rfl))) rfl)) rets_rt h (hΓ := by rfl) (hl := by exact Nat.le_of_ble_eq_true rfl)
    case b6 =>
      exact (fun y73 hP74 => ⟨_, _, _, _, (fun _ _ _ _ _ => dts_one (dt_cmp (dc_ninS (de_var 13 rfl) (de_var 1 rfl)) (h1 := by first | exact nobehind _ (by decide) (by decide) | rfl))), (fun hb75 => (fun _ _ _ _ _ => (de_var 13 rfl))), (.eq (.eq (.eq (.eq (.eq (.eq (.eq (.eq (.eq (.eq (.eq (.eq (.eq (.un (.nil))))))))))))))), (.eq (.eq (.eq (.eq (.eq (.eq (.eq (.eq (.eq (.eq (.eq (.eq (.eq (.un (.nil))))))))))))))), rfl, rfl⟩))
abbrev st__law_due : Stmt := top 9
def pr__law_due (K : PySem.W.Frag) : Sp := fun vs H Q E => ∃ (x_law_colours_here : (List Nat)) (x_law_two_here : (List (Bool × (List (Int × (List Nat) × Int))))), ok__law_due x_law_colours_here x_law_two_here ∧ Pm0 K [.fr .str x_law_colours_here, .fr (.tup (.p2 .bool (.tup (.p3 .int .str .int)))) x_law_two_here] (.fr .bool (m__law_due x_law_colours_here x_law_two_here)) vs H Q E
theorem sc__law_due : FnScope ["_law_colours_here", "_law_two_here", "_law_mark", "_law_goes", "_law_way", "_law_colour", "_law_goal"] ["_law_colours_here", "_law_two_here"] (defScope st__law_due) := ⟨rfl, rfl, rfl, by decide +kernel, rfl, by decide +kernel, by decide +kernel⟩
theorem w__law_due {P : Program} {w : World} {K : PySem.W.Frag} {mg : Str → Option Value} {base : Heap} (B : Bt mg)  {f : Addr} {fd : FuncData} (F : Fun K "_law_due" "_law_due" st__law_due f fd) : FnOk P w K mg base CX0 1 f fd ["_law_colours_here", "_law_two_here"] (pr__law_due K) :=
  F.ok sc__law_due (fun vs H Q E h => by obtain ⟨x_law_colours_here, x_law_two_here, _, h⟩ := h; exact pm0_len h) (fun cdv A outer s H vs Q E hr h => by
    obtain ⟨x_law_colours_here, x_law_two_here, hk, h⟩ := h
    refine ⟨_, pss_wp, ?_⟩
    refine body_F (Γ0 := [.fr .str x_law_colours_here, .fr (.tup (.p2 .bool (.tup (.p3 .int .str .int)))) x_law_two_here, .un, .un, .un, .un, .un]) (d := default) (dss_cons (ds_forL (fun (s23 : Unit) => [.fr .str x_law_colours_here, .fr (.tup (.p2 .bool (.tup (.p3 .int .str .int)))) x_law_two_here, .un, .un, .un, .un, .un]) (s0 := ()) (f := (m__law_due_L1 (x_law_colours_here) (x_law_two_here))) (P := (ok__law_due_L1 (x_law_colours_here) (x_law_two_here))) (di_tup (de_var 1 rfl) (eg_2 2 3 .bool (.tup (.p3 .int .str .int)))) ent_refl hk.1 ?b7 (pg_tup rfl (pgs_cons (pg_name (i := 2) sc__law_due.nd rfl (by first | exact Or.inl rfl | exact Or.inr rfl)) (pgs_cons (pg_name (i := 3) sc__law_due.nd rfl (by first | exact Or.inl rfl | exact Or.inr rfl)) pgs_nil))) PassesOwn.never (hc := by rfl) (hs := by intro _; rfl)) (cont_lpP (fun (s24 : Unit) => (ok__law_due_25 (x_law_two_here))) hk.2 (fun s24 hs29 => cont_nx (dss_one (ds_ret (de_cmp (dc_gt (de_len (t := (.p2 .bool (.tup (.p3 .int .str .int)))) B.z_len (dq_U (du_of (de_var 1 rfl))) (hg := by rfl) (hs := by rfl) (hpl := by rfl)) de_int) (h1 := by first | exact nobehind _ (by decide) (by decide) | rfl))))))) (rets_lp (fun s24 => rets_rt)) h (hΓ := by rfl) (hl := by exact Nat.le_of_ble_eq_true rfl)
    case b7 =>
      refine (fun s2 y3 H4 => ⟨_, (dss_one (ds_forL (fun (s21 : Unit) => [.fr .str (x_law_colours_here), .fr (.tup (.p2 .bool (.tup (.p3 .int .str .int)))) (x_law_two_here), .fr .bool (y3.1), .fr (.tup (.p3 .int .str .int)) (y3.2), .un, .un, .un]) (s0 := ()) (f := (m__law_due_L7 ((x_law_colours_here)) ((x_law_two_here)))) (P := (ok__law_due_L7 ((x_law_colours_here)) ((x_law_two_here)))) (di_tup (de_var 3 rfl) (eg_3 4 5 6 .int .str .int)) ent_refl H4.1 ?b8 (pg_tup rfl (pgs_cons (pg_name (i := 4) sc__law_due.nd rfl (by first | exact Or.inl rfl | exact Or.inr rfl)) (pgs_cons (pg_name (i := 5) sc__law_due.nd rfl (by first | exact Or.inl rfl | exact Or.inr rfl)) (pgs_cons (pg_name (i := 6) sc__law_due.nd rfl (by first | exact Or.inl rfl | exact Or.inr rfl)) pgs_nil)))) PassesOwn.never (hc := by rfl) (hs := by intro _; rfl))), (tn_lp (fun s22 => (tn_nx (ent_wk (.eq (.eq (.un (.un (.eq (.eq (.eq (.nil))))))))))))⟩)
      case b8 =>
        exact (fun s8 y9 H10 => ⟨_, (dss_one (ds_if (dt_pw (dw_or (dt_pw (dw_and (dt_cmp (dc_neS (t := .int) (de_var 4 rfl) de_int (hs := by rfl)) (h1 := by first | exact nobehind _ (by decide) (by decide) | rfl)) (fun hb15 => (dw_and1 (dt_cmp (dc_neS (t := .int) (de_var 4 rfl) (de_neg de_int) (hs := by rfl)) (h1 := by first | exact nobehind _ (by decide) (by decide) | rfl)))) (fun _ => rfl))) (fun hb16 => (dw_or (dt_cmp (dc_ninD (t := .str) hr (H10.1 hb16).2.1 (H10.1 hb16).2.2.1 (de_var 5 rfl) (dq_L (dl_O (do_listS B.z_list (H10.1 hb16).1 (de_var 0 rfl) (hc := by rfl) (hg := by rfl) (hs := by rfl) (hpl := by rfl)))) (he := by rfl) (hd := by decide)) (h1 := by first | exact nobehind _ (by decide) (by decide) | rfl)) (fun hb17 => (dw_or1 (dt_not (dt_chain ic_le ic_lt de_int (de_var 6 rfl) (fun hb18 => (de_len (t := (.p2 .bool (.tup (.p3 .int .str .int)))) B.z_len (dq_U (du_of (de_var 1 rfl))) (hg := by rfl) (hs := by rfl) (hpl := by rfl))) (hm := by with_unfolding_all rfl))))) (fun _ => rfl))) (fun _ => rfl))) (fun hb19 => (dss_one (ds_ret de_bool))) (fun hb20 => dss_nil))), (tn_br (fun hb19 => tn_rt) (fun hb20 => (tn_nx (ent_wk (.eq (.eq (.eq (.eq (.un (.un (.un (.nil))))))))))))⟩))
abbrev st_law : Stmt := top 10
def pr_law (K : PySem.W.Frag) : Sp := fun vs H Q E => ∃ (x_law_script : (List Int)), ok_law x_law_script ∧ Pm0 K [.fr .scr x_law_script] (.fr .bool (m_law x_law_script)) vs H Q E
theorem sc_law : FnScope ["_law_script", "_law_k", "_law_box_here", "_law_colours_here", "_law_two_here", "_law_some", "_law_one", "_law_found", "_law_turn"] ["_law_script"] (defScope st_law) := ⟨rfl, rfl, rfl, by decide +kernel, rfl, by decide +kernel, by decide +kernel⟩
theorem w_law {P : Program} {w : World} {K : PySem.W.Frag} {mg : Str → Option Value} {base : Heap} (B : Bt mg) (C__law_box : Cl P w K mg base 1 "_law_box" ["_law_script", "_law_k"] (pr__law_box K)) (C__law_colours : Cl P w K mg base 2 "_law_colours" ["_law_box_here", "_law_many"] (pr__law_colours K)) (C__law_two : Cl P w K mg base 2 "_law_two" ["_law_box_here", "_law_colours_here", "_law_rows", "_law_goes"] (pr__law_two K)) (C_is_two_way : Cl P w K mg base 2 "is_two_way" ["colours", "two"] (pr_is_two_way K)) (C__law_take : Cl P w K mg base 1 "_law_take" ["_law_box_here", "_law_many"] (pr__law_take K)) (C__law_bent : Cl P w K mg base 2 "_law_bent" ["_law_box_here", "_law_colours_here", "_law_two_here"] (pr__law_bent K)) (C__law_due : Cl P w K mg base 1 "_law_due" ["_law_colours_here", "_law_two_here"] (pr__law_due K)) {f : Addr} {fd : FuncData} (F : Fun K "law" "law" st_law f fd) : FnOk P w K mg base CX0 3 f fd ["_law_script"] (pr_law K) :=
  F.ok sc_law (fun vs H Q E h => by obtain ⟨x_law_script, _, h⟩ := h; exact pm0_len h) (fun cdv A outer s H vs Q E hr h => by
    obtain ⟨x_law_script, hk, h⟩ := h
    refine ⟨_, pss_wp, ?_⟩
    refine body_F (Γ0 := [.fr .scr x_law_script, .un, .un, .un, .un, .un, .un, .un, .un]) (d := default) (dss_cons (ds_forL (fun (s80 : Unit) => [.fr .scr x_law_script, .un, .un, .un, .un, .un, .un, .un, .un]) (s0 := ()) (f := (m_law_L1 (x_law_script))) (P := (ok_law_L1 (x_law_script))) (di_range1 B.z_range hk.1 (de_max2 B.z_max de_int (de_min2 B.z_min (de_len (t := .int) B.z_len (dq_L (dl_scr (de_var 0 rfl))) (hg := by rfl) (hs := by rfl) (hpl := by rfl)) de_int (hc := by rfl) (hg := by rfl) (hs := by rfl) (hs2 := by rfl) (hpl := by rfl)) (hc := by rfl) (hg := by rfl) (hs := by rfl) (hs2 := by rfl) (hpl := by rfl)) (eg_name 1 .int) (hgl := by rfl) (hs := by rfl)) ent_refl hk.2.1 ?b9 (pg_name (i := 1) sc_law.nd rfl (by first | exact Or.inl rfl | exact Or.inr rfl)) PassesOwn.never (hc := by rfl) (hs := by intro _; rfl)) (cont_lpP (fun (s81 : Unit) => ok_law_82) hk.2.2 (fun s81 hs85 => cont_nx (dss_one (ds_ret de_bool))))) (rets_lp (fun s81 => rets_rt)) h (hΓ := by rfl) (hl := by exact Nat.le_of_ble_eq_true rfl)
    case b9 =>
      refine (fun s2 y3 H4 => ⟨_, (dss_cons (ds_setO 2 (clo_call C__law_box (hr.mono (by decide)) (fun _ _ _ h => ⟨_, _, H4.1, h⟩) (da_cons (de_var 0 rfl) (da_cons (de_var 1 rfl) da_nil (hs := by rfl)) (hs := by rfl)) (hf := by rfl) (hg := by rfl) (hdb := by decide) (he := by rfl) (hpl := by rfl)) sc_law.nd) (cont_let1 (fun (v79 : (List Int)) => [.fr .scr (x_law_script), .fr .int y3, .ow false (.lst .int v79), .un, .un, .un, .un, .un, .un]) ((m__law_box (x_law_script) y3)) (fun (v79 : (List Int)) => (ok_law_6 (v79))) H4.2 rfl (fun v79 hs78 => (dss_cons (ds_set 3 (cl_callB 2 C__law_colours (hr.mono (by decide)) (fun _ _ _ h => ⟨_, _, hs78.2.1, h⟩) (da_box 2 (da_cons (de_add de_int (cl_callB 2 C__law_take (hr.mono (by decide)) (fun _ _ _ h => ⟨_, _, hs78.1, h⟩) (da_box 2 (da_cons de_int da_nil (hs := by rfl))) (hi := rfl) (hf := by rfl) (hg := by rfl) (hdb := by decide) (he := by rfl) (hpl := by rfl))) da_nil (hs := by rfl))) (hi := rfl) (hf := by rfl) (hg := by rfl) (hdb := by decide) (he := by rfl) (hpl := by rfl)) sc_law.nd) (cont_let2 (fun (v76 : (List Int)) (v77 : (List Nat)) => [.fr .scr ((x_law_script)), .fr .int (y3), .ow false (.lst .int v76), .fr .str v77, .un, .un, .un, .un, .un]) (((m__law_colours ((m__law_take (v79) (2 : Int))).2 ((1 : Int) + ((m__law_take (v79) (2 : Int))).1))).2) (((m__law_colours ((m__law_take (v79) (2 : Int))).2 ((1 : Int) + ((m__law_take (v79) (2 : Int))).1))).1) (fun (v76 : (List Int)) (v77 : (List Nat)) => (ok_law_13 (v76) (v77))) hs78.2.2 rfl (fun v76 v77 hs75 => (dss_cons (ds_set 4 (cl_callB 2 C__law_two (hr.mono (by decide)) (fun _ _ _ h => ⟨_, _, _, _, hs75.1, h⟩) (da_box 2 (da_cons (de_var 3 rfl) (da_cons de_int (da_cons de_int da_nil (hs := by rfl)) (hs := by rfl)) (hs := by rfl))) (hi := rfl) (hf := by rfl) (hg := by rfl) (hdb := by decide) (he := by rfl) (hpl := by rfl)) sc_law.nd) (cont_let2 (fun (v73 : (List Int)) (v74 : (List (Bool × (List (Int × (List Nat) × Int))))) => [.fr .scr (((x_law_script))), .fr .int ((y3)), .ow false (.lst .int v73), .fr .str (v77), .fr (.tup (.p2 .bool (.tup (.p3 .int .str .int)))) v74, .un, .un, .un, .un]) (((m__law_two (v76) (v77) (4 : Int) (5 : Int))).2) (((m__law_two (v76) (v77) (4 : Int) (5 : Int))).1) (fun (v73 : (List Int)) (v74 : (List (Bool × (List (Int × (List Nat) × Int))))) => (ok_law_20 (v73) ((v77)) (v74))) hs75.2 rfl (fun v73 v74 hs72 => (dss_cons (ds_set 5 (de_frz (do_catL hs72.2.2.2.1 (de_frz (do_lst (t := (.tup (.p2 .bool (.tup (.p3 .int .str .int))))) (dls_cons (de_var 4 rfl) (dls_cons (de_tupH dls_nil (hz := by exact sz_of rfl)) (dls_cons (de_slU (de_var 4 rfl) dp_none (dp_some de_int)) dls_nil (hs := by rfl)) (hs := by rfl)) (hs := by rfl)) (hz := by exact sz_of rfl))) (de_frz (do_lc (lcq_mapS (t := (.tup (.p2 .bool (.tup (.p3 .int .str .int))))) [("_law_turn", 8)] (fun (s33 : (List Int)) => [.fr .scr ((((x_law_script)))), .fr .int (((y3))), .ow false (.lst .int s33), .fr .str ((v77)), .fr (.tup (.p2 .bool (.tup (.p3 .int .str .int)))) (v74), .un, .un, .un, .un]) (v73) (P := (fun (s30 : (List Int)) (y27 : Int) => ((ok__law_bent s30 ((v77)) (v74)) ∧ True))) (f := (fun (s30 : (List Int)) (y27 : Int) => (let t31 := (m__law_bent s30 ((v77)) (v74)); (t31.1, t31.2)))) (di_range1 B.z_range hs72.1 de_int (eg_name 8 .int) (hgl := by rfl) (hs := by rfl)) rfl (fun _ _ _ _ _ => (pg_name (i := 8) sc_law.nd rfl (by first | exact Or.inl rfl | exact Or.inr rfl))) hs72.2.1 hs72.2.2.1 ?b10 (show BlkOk ["_law_script", "_law_k", "_law_box_here", "_law_colours_here", "_law_two_here", "_law_some", "_law_one", "_law_found", "_law_turn"] (defScope st_law) _ _ from ⟨rfl, by decide +kernel, by decide +kernel, by decide +kernel, by decide +kernel⟩) (hw := by intro _; rfl) (htg := by decide)) sc_law.nd (hc := by rfl) (hs := by intro _; rfl))))) sc_law.nd) (cont_let2 (fun (v70 : (List Int)) (v71 : (List (List (Bool × (List (Int × (List Nat) × Int)))))) => [.fr .scr ((((x_law_script)))), .fr .int (((y3))), .ow false (.lst .int v70), .fr .str ((v77)), .fr (.tup (.p2 .bool (.tup (.p3 .int .str .int)))) (v74), .fr (.lst (.tup (.p2 .bool (.tup (.p3 .int .str .int))))) v71, .un, .un, .un]) ((mapS (fun (s30 : (List Int)) (y27 : Int) => (let t31 := (m__law_bent s30 ((v77)) (v74)); (t31.1, t31.2))) (v73) (rng 0 (4 : Int))).2) ((([(v74), [], (cut (v74) none (some (1 : Int)))] : List (List (Bool × (List (Int × (List Nat) × Int))))) ++ (mapS (fun (s30 : (List Int)) (y27 : Int) => (let t31 := (m__law_bent s30 ((v77)) (v74)); (t31.1, t31.2))) (v73) (rng 0 (4 : Int))).1)) (fun (v70 : (List Int)) (v71 : (List (List (Bool × (List (Int × (List Nat) × Int)))))) => (ok_law_34 (((v77))) ((v74)) (v71))) hs72.2.2.2.2 rfl (fun v70 v71 hs69 => (dss_one (ds_forL (fun (s67 : Unit) => [.fr .scr (((((x_law_script))))), .fr .int ((((y3)))), .ow false (.lst .int (v70)), .fr .str (((v77))), .fr (.tup (.p2 .bool (.tup (.p3 .int .str .int)))) ((v74)), .fr (.lst (.tup (.p2 .bool (.tup (.p3 .int .str .int))))) (v71), .un, .un, .un]) (s0 := ()) (f := (m_law_L42 ((((v77)))))) (P := (ok_law_L42 ((((v77)))))) (di_list (de_frz (do_catL hs69.1 (de_var 5 rfl) (de_frz (do_lst (t := (.tup (.p2 .bool (.tup (.p3 .int .str .int))))) (dls_cons (de_var 4 rfl) dls_nil (hs := by rfl)) (hz := by exact sz_of rfl))))) (eg_name 6 (.tup (.p2 .bool (.tup (.p3 .int .str .int)))))) ent_refl hs69.2.1 ?b11 (pg_name (i := 6) sc_law.nd rfl (by first | exact Or.inl rfl | exact Or.inr rfl)) PassesOwn.never (hc := by rfl) (hs := by intro _; rfl)))) rfl))) rfl))) rfl))) rfl)), (tn_lp (fun s68 => (tn_nx (ent_wk (.eq (.un (.un (.un (.un (.un (.eq (.eq (.eq (.nil))))))))))))))⟩)
      case b10 =>
        exact (fun s30 y27 hP28 => ⟨_, ((m__law_bent s30 ((v77)) (v74))).2, _, (fun _ _ _ _ _ => (cl_callB 2 C__law_bent (hr.mono (by decide)) (fun _ _ _ h => ⟨_, _, _, hP28.1, h⟩) (da_box 2 (da_cons (de_var 3 rfl) (da_cons (de_var 4 rfl) da_nil (hs := by rfl)) (hs := by rfl))) (hi := rfl) (hf := by rfl) (hg := by rfl) (hdb := by decide) (he := by rfl) (hpl := by rfl))), (.eq (.eq (.eq (.eq (.eq (.eq (.eq (.eq (.un (.nil)))))))))), rfl⟩)
      case b11 =>
        exact (fun s43 y44 H45 => ⟨_, (dss_cons (ds_set 7 (cl_call C_is_two_way (hr.mono (by decide)) (fun _ _ _ h => ⟨_, _, H45.1, h⟩) (da_cons (de_var 3 rfl) (da_cons (de_var 6 rfl) da_nil (hs := by rfl)) (hs := by rfl)) (hf := by rfl) (hg := by rfl) (hdb := by decide) (he := by rfl) (hpl := by rfl)) sc_law.nd) (cont_let1 (fun (v66 : Bool) => [.fr .scr ((((((x_law_script)))))), .fr .int (((((y3))))), .ow false (.lst .int ((v70))), .fr .str ((((v77)))), .fr (.tup (.p2 .bool (.tup (.p3 .int .str .int)))) (((v74))), .fr (.lst (.tup (.p2 .bool (.tup (.p3 .int .str .int))))) ((v71)), .fr (.tup (.p2 .bool (.tup (.p3 .int .str .int)))) y44, .fr .bool v66, .un]) ((m_is_two_way ((((v77)))) y44)) (fun (v66 : Bool) => (ok_law_52 (((((v77))))) (y44) (v66))) H45.2 rfl (fun v66 hs65 => (dss_one (ds_if (dt_pw (dw_or (dt_not (dt_val (de_isi (r := true) (s := "bool") (T := "bool") B.z_isinstance B.z_bool (de_var 7 rfl) (hb := by decide +kernel) (hk := by decide +kernel) (hn := by rfl) (hg := by rfl) (hgT := by rfl) (hnn := by decide) (hdb := by decide) (hs := by rfl) (hs2 := by rfl) (hpl := by rfl)) (he := by intro _; rfl))) (fun hb62 => (dw_or1 (dt_cmp (dc_neS (t := .bool) (de_var 7 rfl) (cl_call C__law_due (hr.mono (by decide)) (fun _ _ _ h => ⟨_, _, (hs65.1 hb62).1, h⟩) (da_cons (de_var 3 rfl) (da_cons (de_var 6 rfl) da_nil (hs := by rfl)) (hs := by rfl)) (hf := by rfl) (hg := by rfl) (hdb := by decide) (he := by rfl) (hpl := by rfl)) (hs := by rfl)) (h1 := by first | exact nobehind _ (by decide) (by decide) | rfl)))) (fun _ => rfl))) (fun hb63 => (dss_one (ds_ret de_bool))) (fun hb64 => dss_nil)))) rfl)), (tn_br (fun hb63 => tn_rt) (fun hb64 => (tn_nx (ent_wk (.eq (.eq (.eq (.eq (.eq (.eq (.un (.un (.eq (.nil))))))))))))))⟩))
end Wk

set_option Elab.async false
set_option linter.all false
set_option maxRecDepth 10000
set_option maxHeartbeats 1000000
namespace Wk
open PySem Dn Mt
/-! the box -/
def Bx (b : List Int) : Prop := ∃ c s, b = [c, s] ∧ 0 ≤ c ∧ 0 < s ∧ s ≤ 2147483629
theorem sp_box {sc : List Int} {k : Int} (h0 : 0 ≤ k) (h1 : k ≤ 1000000) : ok__law_box sc k ∧ Bx (m__law_box sc k) := by
  have hm : ∀ cell : Int, ok__law_box_14 k cell ∧ Bx (m__law_box_14 k cell) := by
    intro cell
    have e1 : 0 ≤ cell % 2147483629 := Int.emod_nonneg _ (by decide)
    have e2 : cell % 2147483629 < 2147483629 := Int.emod_lt_of_pos _ (by decide)
    refine ⟨⟨Mt.mulOk (by omega) (by decide), Mt.mulOk (by decide) (by omega), ?_, trivial⟩, ?_⟩
    · unfold b2z
      by_cases h : (10 : Int) ^ Int.toNat 18 ≤ cell
      · simp only [h, decide_true, cond_true]; exact Mt.i21
      · simp only [h, decide_false, cond_false]; exact Mt.i20
    · refine ⟨_, _, rfl, ?_, ?_, ?_⟩
      · unfold b2z
        by_cases h : (10 : Int) ^ Int.toNat 18 ≤ cell
        · simp only [h, decide_true, cond_true]
          have : (0 : Int) ≤ cell := Int.le_trans (by decide) h
          exact this
        · simp only [h, decide_false, cond_false]; exact Int.le_refl _
      · have := Int.emod_nonneg ((cell % 2147483629) * 48271 + 40692 * k) (show (2147483629 : Int) ≠ 0 by decide)
        omega
      · have := Int.emod_lt_of_pos ((cell % 2147483629) * 48271 + 40692 * k) (show (0 : Int) < 2147483629 by decide)
        omega
  refine ⟨⟨Mt.mulOk (by decide) (by omega), ?_, ?_, (hm _).1⟩, (hm _).2⟩
  · intro h
    exact ⟨Mt.ixOk h0 (of_decide_eq_true h), trivial⟩
  · intro h
    refine ⟨fun h2 => ?_, trivial⟩
    have h3 := of_decide_eq_true h2
    have e1 : 0 ≤ k % (sc.length : Int) := Int.emod_nonneg _ (by omega)
    have e2 : k % (sc.length : Int) < sc.length := Int.emod_lt_of_pos _ h3
    have e3 : 0 ≤ (Dn.get 0 sc (k % (sc.length : Int))) % 2147483629 := Int.emod_nonneg _ (by decide)
    have e4 : (Dn.get 0 sc (k % (sc.length : Int))) % 2147483629 < 2147483629 := Int.emod_lt_of_pos _ (by decide)
    exact ⟨h3, Mt.ixOk e1 e2, Mt.mulOk (by omega) (by decide), trivial⟩
theorem sp_take {b : List Int} {n : Int} (hb : Bx b) (h0 : 0 < n) (h1 : n ≤ 1000000000) : ok__law_take b n ∧ Bx (m__law_take b n).2 ∧ 0 ≤ (m__law_take b n).1 ∧ (m__law_take b n).1 < n := by
  obtain ⟨c, s, rfl, hc, hs, ht⟩ := hb
  by_cases h : 0 < c
  · have hd : decide (0 < (Dn.get (default : Int) [c, s] 0)) = true := decide_eq_true h
    refine ⟨⟨Mt.i20, fun _ => ⟨Mt.i20, h0, Mt.i20, Mt.divOk h0 (by omega), Mt.i20, trivial⟩, (fun q => by rw [hd] at q; cases q), trivial⟩, ?_⟩
    unfold m__law_take
    rw [hd]
    exact ⟨⟨c / n, s, rfl, Int.ediv_nonneg hc (by omega), hs, ht⟩, Int.emod_nonneg _ (by omega), Int.emod_lt_of_pos _ h0⟩
  · have hd : decide (0 < (Dn.get (default : Int) [c, s] 0)) = false := decide_eq_false h
    have e1 : 0 ≤ (s * 69623) % 2147483647 := Int.emod_nonneg _ (by decide)
    have e2 : (s * 69623) % 2147483647 < 2147483647 := Int.emod_lt_of_pos _ (by decide)
    refine ⟨⟨Mt.i20, (fun q => by rw [hd] at q; cases q), fun _ => ⟨Mt.i21, Mt.mulOk (by show s.natAbs < _; omega) (by decide), Mt.mulOk (by show ((s * 69623) % 2147483647).natAbs < _; omega) (by decide), Mt.i21, Mt.mulOk (by show ((s * 69623) % 2147483647).natAbs < _; omega) (by decide), Mt.i21, h0, trivial⟩, trivial⟩, ?_⟩
    unfold m__law_take
    rw [hd]
    have e3 := Int.emod_nonneg ((s * 69623) % 2147483647 * 48271 + 30103) (show (2147483629 : Int) ≠ 0 by decide)
    have e4 := Int.emod_lt_of_pos ((s * 69623) % 2147483647 * 48271 + 30103) (show (0 : Int) < 2147483629 by decide)
    exact ⟨⟨c, _, rfl, hc, by omega, by omega⟩, Int.emod_nonneg _ (by omega), Int.emod_lt_of_pos _ h0⟩
theorem eraseIdx_len {α : Type} {xs : List α} {i : Nat} (h : i < xs.length) : (xs.eraseIdx i).length = xs.length - 1 := List.length_eraseIdx_of_lt h
/-- the colours are letters, each once, as many as asked for -/
theorem sp_colours {b : List Int} {n : Int} (hb : Bx b) (h0 : 0 ≤ n) (h1 : n ≤ 26) : ok__law_colours b n ∧ Bx (m__law_colours b n).2 ∧ ((m__law_colours b n).1.length : Int) = n ∧ ∀ c ∈ (m__law_colours b n).1, 97 ≤ c ∧ c ≤ 122 := by
  have hl : (rng 0 n).length = n.toNat := by rw [rng_len]; congr 1; omega
  have H := Mt.mapS_inv (P := fun (s9 : ((List Int) × (List (List Nat)))) (y6 : Int) => ((ok__law_take s9.1 ((s9.2).length : Int)) ∧ (let t10 := (m__law_take s9.1 ((s9.2).length : Int)); ((IxOk (s9.2).length t10.1) ∧ ((Sz (s9.2).length) ∧ True)))))
    (f := fun (s9 : ((List Int) × (List (List Nat)))) (y6 : Int) => (let t10 := (m__law_take s9.1 ((s9.2).length : Int)); ((Dn.get (default : List Nat) s9.2 t10.1), (t10.2, ((s9.2).eraseIdx (ix (s9.2).length t10.1))))))
    (fun i s => Bx s.1 ∧ s.2.length = 26 - i ∧ ∀ x ∈ s.2, ∃ c, x = [c] ∧ 97 ≤ c ∧ c ≤ 122) (fun x => ∃ c, x = [c] ∧ 97 ≤ c ∧ c ≤ 122)
    (rng 0 n) 0 (b, chars [97, 98, 99, 100, 101, 102, 103, 104, 105, 106, 107, 108, 109, 110, 111, 112, 113, 114, 115, 116, 117, 118, 119, 120, 121, 122])
    ⟨hb, rfl, fun x hx => by
      obtain ⟨c, h, rfl⟩ := Mt.chars_mem hx
      exact ⟨c, rfl, Mt.letters c h⟩⟩
    (by
      intro s y i _ _ hi ⟨hb, hn, hs⟩
      have hi' : i < 26 := by omega
      obtain ⟨t1, t2, t3, t4⟩ := sp_take (b := s.1) (n := (s.2.length : Int)) hb (by omega) (by omega)
      have hix : IxOk s.2.length (m__law_take s.1 (s.2.length : Int)).1 := Mt.ixOk t3 t4
      refine ⟨⟨t1, hix, ?_, trivial⟩, ⟨t2, ?_, ?_⟩, hs _ (Mt.get_mem hix)⟩
      · unfold Sz; omega
      · show (s.2.eraseIdx _).length = _
        rw [eraseIdx_len (Mt.ix_lt hix)]; omega
      · exact fun x hx => hs x (List.mem_of_mem_eraseIdx hx))
  obtain ⟨g1, ⟨g2, _, _⟩, g3, g4⟩ := H
  rw [hl] at g4
  have p := List.mergeSort_perm (mapS (fun (s9 : ((List Int) × (List (List Nat)))) (y6 : Int) => (let t10 := (m__law_take s9.1 ((s9.2).length : Int)); ((Dn.get (default : List Nat) s9.2 t10.1), (t10.2, ((s9.2).eraseIdx (ix (s9.2).length t10.1)))))) (b, chars [97, 98, 99, 100, 101, 102, 103, 104, 105, 106, 107, 108, 109, 110, 111, 112, 113, 114, 115, 116, 117, 118, 119, 120, 121, 122]) (rng 0 n)).1 (leT .str)
  have hone : ∀ xs : List (List Nat), (∀ x ∈ xs, ∃ c, x = [c] ∧ 97 ≤ c ∧ c ≤ 122) → xs.flatten.length = xs.length ∧ ∀ c ∈ xs.flatten, 97 ≤ c ∧ c ≤ 122 := by
    intro xs
    induction xs with
    | nil => intro _; exact ⟨rfl, fun c hc => by cases hc⟩
    | cons x xs ih =>
      intro h
      obtain ⟨c, rfl, h1, h2⟩ := h x (List.mem_cons_self ..)
      obtain ⟨i1, i2⟩ := ih fun y hy => h y (List.mem_cons_of_mem _ hy)
      refine ⟨by simp [i1, Nat.add_comm], fun d hd => ?_⟩
      simp only [List.flatten_cons, List.cons_append, List.nil_append, List.mem_cons] at hd
      rcases hd with rfl | hd
      · exact ⟨h1, h2⟩
      · exact i2 d hd
  have hm : ∀ x ∈ sortT .str _, ∃ c, x = [c] ∧ 97 ≤ c ∧ c ≤ 122 := fun x hx => g3 x (p.mem_iff.mp hx)
  have hs := hone _ hm
  have hlen : (sortT .str _).length = _ := p.length_eq
  refine ⟨⟨by decide, ⟨by omega, by omega⟩, ?_, g1, ?_, ?_, trivial⟩, g2, ?_, ?_⟩
  · rw [hl]; unfold Sz; omega
  · show Sz (List.length _)
    rw [g4]; unfold Sz; omega
  · refine Mt.szJ_nil (m := 1) (fun x hx => ?_) ?_
    · obtain ⟨c, rfl, _⟩ := hm x hx; exact Nat.le_refl _
    · rw [hlen, g4]; omega
  · show ((joinS [] (sortT .str _)).length : Int) = n
    rw [Mt.joinS_nil, hs.1, hlen, g4]; omega
  · show ∀ c ∈ joinS [] (sortT .str _), _
    rw [Mt.joinS_nil]
    exact hs.2
theorem sfind_at {cs : List Nat} {i : Nat} (h : sfind cs [c] = some i) : cs[i]? = some c := by
  have := List.find?_some h
  simp only [beq_iff_eq, List.length_cons, List.length_nil] at this
  cases e : cs.drop i with
  | nil => rw [e] at this; cases this
  | cons d r =>
    rw [e] at this
    simp at this
    subst this
    have : (cs.drop i)[0]? = some d := by rw [e]; rfl
    rw [List.getElem?_drop] at this
    simpa using this
/-- a colour is found at a place of its own -/
theorem sp_find {cs : List Nat} {c : Nat} (h : c ∈ cs) : (sfind cs [c]).isSome = true ∧ 0 ≤ findZ cs [c] ∧ findZ cs [c] < cs.length := by
  have hs : (sfind cs [c]).isSome = true := by
    obtain ⟨i, h1, h2⟩ := List.getElem_of_mem h
    unfold sfind
    rw [List.find?_isSome]
    refine ⟨i, List.mem_range.mpr (by omega), ?_⟩
    rw [List.drop_eq_getElem_cons h1, h2]
    simp
  obtain ⟨i, hi⟩ := Option.isSome_iff_exists.mp hs
  have hl := sfind_at hi
  have hl2 : i < cs.length := by
    rcases Nat.lt_or_ge i cs.length with q | q
    · exact q
    · rw [List.getElem?_eq_none q] at hl; cases hl
  refine ⟨hs, ?_⟩
  unfold findZ
  rw [hi]
  show 0 ≤ (i : Int) ∧ (i : Int) < _
  omega
section
variable {α : Type} {P : α → Prop}
theorem tk {b : List Int} {n : Int} {f : Int × List Int → Rn α} (hb : Bx b) (h0 : 0 < n) (h1 : n ≤ 1000000000) (k : ∀ t b', Bx b' → 0 ≤ t → t < n → Sp (f (t, b')) P) : Sp (Rn.bind (r__law_take b n) f) P :=
  Sp.bind (P := fun r => Bx r.2 ∧ 0 ≤ r.1 ∧ r.1 < n) (Sp.of (e__law_take b n) (sp_take hb h0 h1)) fun ⟨t, b'⟩ ⟨p, q, r⟩ => k t b' p q r
theorem bx {sc : List Int} {i : Int} {f : List Int → Rn α} (h0 : 0 ≤ i) (h1 : i ≤ 1000000) (k : ∀ b', Bx b' → Sp (f b') P) : Sp (Rn.bind (r__law_box sc i) f) P :=
  Sp.bind (P := Bx) (Sp.of (e__law_box sc i) (sp_box h0 h1)) k
theorem col {b : List Int} {n : Int} {f : List Nat × List Int → Rn α} (hb : Bx b) (h0 : 0 ≤ n) (h1 : n ≤ 26) (k : ∀ cs b', Bx b' → (cs.length : Int) = n → (∀ c ∈ cs, 97 ≤ c ∧ c ≤ 122) → Sp (f (cs, b')) P) : Sp (Rn.bind (r__law_colours b n) f) P :=
  Sp.bind (P := fun r => Bx r.2 ∧ (r.1.length : Int) = n ∧ ∀ c ∈ r.1, 97 ≤ c ∧ c ≤ 122) (Sp.of (e__law_colours b n) (sp_colours hb h0 h1)) fun ⟨t, b'⟩ ⟨p, q, r⟩ => k t b' p q r
end
theorem rngOk {n : Int} (h0 : -1000000 ≤ n) (h1 : n ≤ 1000000) : RngOk n := ⟨by omega, by omega⟩
theorem sz {n : Nat} (h : n ≤ 100000) : Sz n := h
theorem rl {n : Int} : (rng 0 n).length = n.toNat := by rw [rng_len]; congr 1; omega
theorem gm {α : Type} {d : α} {xs : List α} {i : Int} (h0 : 0 ≤ i) (h1 : i < xs.length) : Dn.get d xs i ∈ xs := Mt.get_mem (Mt.ixOk h0 h1)
theorem cut_set {α : Type} {xs : List α} {k : Int} (h0 : 0 ≤ k) (h1 : k < xs.length) : (cut xs none (some k)).length + 1 + (cut xs (some (k + 1)) none).length ≤ xs.length := by
  unfold cut HT.sIx
  simp only [List.length_take, List.length_drop]
  repeat' split
  all_goals omega
abbrev Tw := List (Bool × List (Int × List Nat × Int))
def Gg (cs : List Nat) (L : Nat := 1000) : Prop := cs.length ≤ L ∧ ∀ c ∈ cs, c < 1000
def G (n m : Nat) (two : Tw) (L : Nat := 1000) : Prop := two.length ≤ n ∧ ∀ r ∈ two, r.2.length ≤ m ∧ ∀ g ∈ r.2, Gg g.2.1 L
theorem Gg.up {cs : List Nat} {L M : Nat} (h : Gg cs L) (k : L ≤ M) : Gg cs M := ⟨Nat.le_trans h.1 k, h.2⟩
theorem sp_two {b : List Int} {cs : List Nat} (hb : Bx b) (hc : ∀ c ∈ cs, 97 ≤ c ∧ c ≤ 122) (h1 : 0 < cs.length) (h2 : cs.length ≤ 2) : Sp (r__law_two b cs 4 5) fun r => Bx r.2 ∧ G 4 5 r.1 500 ∧ 0 < r.1.length := by
  refine tk hb (by omega) (by omega) fun t b hb t0 t1 => ?_
  refine Sp.chk (rngOk (by omega) (by omega)) ?_
  refine Sp.fold (fun i s => Bx s.1 ∧ s.2.length = i ∧ ∀ r ∈ s.2, r.2.length ≤ 5 ∧ ∀ g ∈ r.2, Gg g.2.1 500) ⟨hb, rfl, fun r hr => by cases hr⟩ ?_ ?_
  · rintro ⟨b, found⟩ y i _ hi _ ⟨hb, hl, hf⟩
    dsimp only at *
    rw [rl] at hi
    refine tk hb (by omega) (by omega) fun u b hb u0 u1 => ?_
    refine Sp.chk (rngOk (by omega) (by omega)) ?_
    dsimp only
    refine Sp.fold (fun i s => Bx s.1 ∧ s.2.length = i ∧ ∀ g ∈ s.2, Gg g.2.1 500) ⟨hb, rfl, fun r hr => by cases hr⟩ ?_ ?_
    · rintro ⟨b, own⟩ y i _ hi _ ⟨hb, hl, hf⟩
      dsimp only at *
      rw [rl] at hi
      refine tk hb (by omega) (by omega) fun v b hb v0 v1 => Sp.chk (Mt.ixOk v0 v1) ?_
      refine Sp.chk (sz (by omega)) (tk hb (by omega) (by omega) fun w b hb w0 w1 => Sp.chk (Mt.ixOk w0 w1) (Sp.chk (sz (by omega)) (tk hb (by omega) (by omega) fun z b hb z0 z1 => Sp.chk (sz (by dsimp only; omega)) (Sp.ret ⟨hb, ?_, ?_⟩))))
      · simp [hl]
      · intro g hg
        rcases List.mem_append.mp hg with hg | hg
        · exact hf g hg
        · rw [List.mem_singleton] at hg; subst hg
          refine ⟨by simp, fun c hc' => ?_⟩
          simp only [List.mem_singleton] at hc'; subst hc'
          have := hc _ (gm (d := 0) w0 w1)
          omega
    · rintro ⟨b, own⟩ ⟨hb, hl2, hf2⟩
      dsimp only at *
      rw [rl] at hl2
      refine tk hb (by omega) (by omega) fun v b hb v0 v1 => Sp.chk (sz (by omega)) (Sp.ret ⟨hb, by simp [hl], ?_⟩)
      intro r hr
      rcases List.mem_append.mp hr with hr | hr
      · exact hf r hr
      · rw [List.mem_singleton] at hr; subst hr
        exact ⟨by show own.length ≤ 5; omega, hf2⟩
  · rintro ⟨b, found⟩ ⟨hb, hl, hf⟩
    dsimp only at *
    rw [rl] at hl
    exact Sp.ret ⟨hb, ⟨by show found.length ≤ 4; omega, hf⟩, by show 0 < found.length; omega⟩
/-- some letter is not among so few -/
theorem rest_pos {cs : List Nat} (h : cs.length ≤ 2) : 0 < ((List.filter (fun (y73 : (List Nat)) => (!(sfind cs y73).isSome)) (chars ([97, 98, 99, 100, 101, 102, 103, 104, 105, 106, 107, 108, 109, 110, 111, 112, 113, 114, 115, 116, 117, 118, 119, 120, 121, 122] : List Nat))).map (fun (y73 : (List Nat)) => y73)).length := by
  have key : ∃ c, c ∈ [97, 98, 99] ∧ c ∉ cs := by
    match cs, h with
    | [], _ => exact ⟨97, by decide, by simp⟩
    | [a], _ =>
      by_cases h : a = 97
      · exact ⟨98, by decide, by simp; omega⟩
      · exact ⟨97, by decide, by simp; omega⟩
    | [a, b], _ =>
      by_cases h : a = 97 ∨ b = 97
      · by_cases h2 : a = 98 ∨ b = 98
        · exact ⟨99, by decide, by simp; omega⟩
        · exact ⟨98, by decide, by simp; omega⟩
      · exact ⟨97, by decide, by simp; omega⟩
  obtain ⟨c, hc, hn⟩ := key
  rw [List.length_map]
  refine List.length_pos_of_mem (a := [c]) (List.mem_filter.mpr ⟨?_, ?_⟩)
  · unfold chars
    refine List.mem_map.mpr ⟨c, ?_, rfl⟩
    simp at hc ⊢
    omega
  · cases e : sfind cs [c] with
    | none => rfl
    | some i => exact absurd (List.mem_of_getElem? (sfind_at e)) hn
theorem sp_bent {b : List Int} {cs : List Nat} {two : Tw} (hb : Bx b) (hc : ∀ c ∈ cs, 97 ≤ c ∧ c ≤ 122) (h1 : 0 < cs.length) (h2 : cs.length ≤ 2) (hg : G 4 5 two 500) (hp : 0 < two.length) : Sp (r__law_bent b cs two) fun r => Bx r.2 ∧ G 5 11 r.1 := by
  have hl := hg.1
  refine tk hb (by omega) (by omega) fun k b hb k0 k1 => ?_
  refine Sp.chk (Mt.ixOk k0 k1) ?_
  have hr := hg.2 _ (gm (d := default) k0 k1)
  dsimp only
  generalize Dn.get default two k = row at *
  obtain ⟨mark, goes⟩ := row
  dsimp only at *
  have hr1 := hr.1
  refine tk hb (by omega) (by omega) fun t b hb t0 t1 => ?_
  have hcs : Gg cs 500 := ⟨by omega, fun c h => by have := hc c h; omega⟩
  refine Sp.chk (Mt.ixOk (by decide) (by omega)) (Sp.chk (sz (by omega)) (Sp.chk (sz (by simp; omega)) ?_))
  have t2 : t < ((goes ++ [((1 : Int), [Dn.get 0 cs (0 : Int)], (0 : Int))]).length : Nat) := by rw [List.length_append, List.length_singleton]; omega
  refine Sp.chk (Mt.ixOk t0 t2) ?_
  have hit : Gg (Dn.get (default : Int × List Nat × Int) (goes ++ [((1 : Int), [Dn.get 0 cs (0 : Int)], (0 : Int))]) t).2.1 500 := by
    have := gm (d := (default : Int × List Nat × Int)) t0 t2
    rcases List.mem_append.mp this with q | q
    · exact hr.2 _ q
    · rw [List.mem_singleton] at q; rw [q]
      refine ⟨by simp, fun c hc' => ?_⟩
      simp only [List.mem_singleton] at hc'; subst hc'
      have := hc _ (gm (d := 0) (Int.le_refl 0) (by omega))
      omega
  dsimp only
  generalize Dn.get (default : Int × List Nat × Int) (goes ++ [((1 : Int), [Dn.get 0 cs (0 : Int)], (0 : Int))]) t = it at *
  obtain ⟨way, colour, goal⟩ := it
  dsimp only at *
  refine tk hb (by omega) (by omega) fun kind b hb _ _ => ?_
  refine Sp.brTq (fun r => Bx r.1) (fun _ => tk hb (by omega) (by omega) fun u b hb u0 u1 => Sp.chk (Mt.ixOk u0 u1) (Sp.ret hb)) (fun _ => Sp.ret hb) ?_
  rintro ⟨b, way'⟩ hb
  refine Sp.brTq (fun r => Bx r.1 ∧ Gg r.2) (fun _ => ?_) (fun _ => Sp.ret ⟨hb, hit.up (by decide)⟩) ?_
  · have hrp := rest_pos (cs := cs) h2
    have hrm : ∀ x ∈ ((List.filter (fun (y73 : (List Nat)) => (!(sfind cs y73).isSome)) (chars ([97, 98, 99, 100, 101, 102, 103, 104, 105, 106, 107, 108, 109, 110, 111, 112, 113, 114, 115, 116, 117, 118, 119, 120, 121, 122] : List Nat))).map (fun (y73 : (List Nat)) => y73)), Gg x := by
      intro x hx
      obtain ⟨y, hy, rfl⟩ := List.mem_map.mp hx
      obtain ⟨c, hc, rfl⟩ := Mt.chars_mem (List.mem_filter.mp hy).1
      refine ⟨by simp, fun d hd => ?_⟩
      rw [List.mem_singleton] at hd; subst hd
      have := Mt.letters _ hc; omega
    have hrl : ((List.filter (fun (y73 : (List Nat)) => (!(sfind cs y73).isSome)) (chars ([97, 98, 99, 100, 101, 102, 103, 104, 105, 106, 107, 108, 109, 110, 111, 112, 113, 114, 115, 116, 117, 118, 119, 120, 121, 122] : List Nat))).map (fun (y73 : (List Nat)) => y73)).length ≤ 26 := by
      rw [List.length_map]
      exact Nat.le_trans (List.length_filter_le ..) (by decide)
    refine Sp.chk (by decide) ?_
    generalize ((List.filter (fun (y73 : (List Nat)) => (!(sfind cs y73).isSome)) (chars ([97, 98, 99, 100, 101, 102, 103, 104, 105, 106, 107, 108, 109, 110, 111, 112, 113, 114, 115, 116, 117, 118, 119, 120, 121, 122] : List Nat))).map (fun (y73 : (List Nat)) => y73)) = rest at *
    dsimp only at *
    have hit1 := hit.1
    refine Sp.chk (sz (by omega)) (tk hb (by omega) (by omega) fun u b hb u0 u1 => Sp.chk (Mt.ixOk u0 u1) (tk hb (by omega) (by omega) fun v b hb v0 v1 => Sp.chk (Mt.ixOk v0 v1) (Sp.ret ⟨hb, ?_⟩)))
    have := gm (d := (default : List Nat)) (xs := [([] : List Nat), cs, (colour ++ colour), (Dn.get (default : (List Nat)) rest u), ([65] : List Nat)]) v0 v1
    simp only [List.mem_cons, List.not_mem_nil, or_false] at this
    rcases this with q | q | q | q | q <;> dsimp only <;> rw [q]
    · exact ⟨by decide, fun c h => by cases h⟩
    · exact hcs.up (by decide)
    · exact ⟨by rw [List.length_append]; omega, fun c h => by rcases List.mem_append.mp h with h | h <;> exact hit.2 c h⟩
    · exact hrm _ (gm u0 u1)
    · exact ⟨by decide, fun c h => by rw [List.mem_singleton] at h; omega⟩
  rintro ⟨b, colour'⟩ ⟨hb, hco⟩
  refine Sp.brTq (fun r => Bx r.1) (fun _ => tk hb (by omega) (by omega) fun u b hb u0 u1 => Sp.chk (Mt.ixOk u0 u1) (Sp.ret hb)) (fun _ => Sp.ret hb) ?_
  rintro ⟨b, goal'⟩ hb
  dsimp only at *
  have c1 := cut_set (xs := goes ++ [((1 : Int), [Dn.get 0 cs (0 : Int)], (0 : Int))]) t0 t2
  have c2 := Mt.cut_len (xs := goes) (lo := none) (hi := some t)
  have c3 := Mt.cut_len (xs := goes) (lo := some (t + 1)) (hi := none)
  have d1 := cut_set (xs := two) k0 k1
  simp only [List.length_append, List.length_singleton] at c1
  have gl : (cut goes none (some t) ++ [(way', colour', goal')] ++ cut goes (some (t + 1)) none).length ≤ 11 := by
    simp only [List.length_append, List.length_singleton]; omega
  have gg : ∀ g ∈ (cut goes none (some t) ++ [(way', colour', goal')] ++ cut goes (some (t + 1)) none), Gg g.2.1 := by
    intro g h
    rcases List.mem_append.mp h with h | h
    · rcases List.mem_append.mp h with h | h
      · exact (hr.2 g (Mt.cut_mem h)).up (by decide)
      · rw [List.mem_singleton] at h; subst h; exact hco
    · exact (hr.2 g (Mt.cut_mem h)).up (by decide)
  refine Sp.chk (sz (by rw [List.length_singleton]; omega)) (Sp.chk (sz (by simp only [List.length_append, List.length_singleton]; omega)) (Sp.chk (sz (by rw [List.length_singleton]; omega)) (Sp.chk (sz (by simp only [List.length_append, List.length_singleton]; omega)) (Sp.ret ⟨hb, ?_, ?_⟩))))
  · simp only [List.length_append, List.length_singleton]; omega
  · intro r h
    rcases List.mem_append.mp h with h | h
    · rcases List.mem_append.mp h with h | h
      · have := hg.2 r (Mt.cut_mem h); exact ⟨by omega, fun g h => (this.2 g h).up (by decide)⟩
      · rw [List.mem_singleton] at h; subst h; exact ⟨gl, gg⟩
    · have := hg.2 r (Mt.cut_mem h); exact ⟨by omega, fun g h => (this.2 g h).up (by decide)⟩
/-- what both look at -/
def okGo (cs : List Nat) (n : Nat) (g : Int × List Nat × Int) : Bool := (decide (g.1 = 1) || decide (g.1 = -1)) && (memD g.2.1 (chars cs) && (decide (0 ≤ g.2.2) && decide (g.2.2 < (n : Int))))
def okTw (cs : List Nat) (two : Tw) : Bool := decide (0 < two.length) && two.all fun r => r.2.all (okGo cs two.length)
theorem one_in {cs x : List Nat} : (decide ((x.length : Int) = 1) && (sfind cs x).isSome) = memD x (chars cs) := by
  rw [Bool.eq_iff_iff, Bool.and_eq_true, decide_eq_true_iff, memD_iff]
  constructor
  · rintro ⟨h1, h2⟩
    match x, h1 with
    | [c], _ =>
      obtain ⟨i, hi⟩ := Option.isSome_iff_exists.mp h2
      exact List.mem_map.mpr ⟨c, List.mem_of_getElem? (sfind_at hi), rfl⟩
    | [], h => simp at h
    | _ :: _ :: _, h => simp at h; omega
  · intro h
    obtain ⟨c, hc, rfl⟩ := Mt.chars_mem h
    exact ⟨rfl, (sp_find hc).1⟩
theorem sp_is {cs : List Nat} {two : Tw} (hg : G 5 11 two) : Sp (r_is_two_way cs two) fun v => v = okTw cs two := by
  have hgo : ∀ y : Int × List Nat × Int, m_is_going cs two y = okGo cs two.length y := by
    rintro ⟨w, c, k⟩
    show (memD w [1, -1] && (decide ((c.length : Int) = 1) && ((sfind cs c).isSome && (decide (0 ≤ k) && decide (k < (two.length : Int)))))) = _
    have : memD w [(1 : Int), -1] = (decide (w = 1) || decide (w = -1)) := by
      rw [Bool.eq_iff_iff, memD_iff]; simp
    rw [this, ← Bool.and_assoc (decide _) (sfind cs c).isSome, one_in]
    rfl
  refine Sp.fold (fun i s => s = (two.take i).flatMap (fun r => r.2) ∧ s.length ≤ 11 * i) ⟨rfl, by simp⟩ ?_ ?_
  · rintro s y i hy hi he ⟨h1, h2⟩
    have := (hg.2 y hy).1
    have := hg.1
    refine Sp.chk (sz (by omega)) (Sp.ret ⟨?_, by rw [List.length_append]; omega⟩)
    rw [List.take_add_one, he]; simp [h1]
  · rintro s ⟨h1, h2⟩
    have := hg.1
    rw [List.take_length] at h1
    refine Sp.chk (fun _ => ⟨sz (by omega), fun y hy => ⟨?_, trivial⟩, trivial⟩) (Sp.ret ?_)
    · rw [h1] at hy
      obtain ⟨r, hr, hy⟩ := List.mem_flatMap.mp hy
      have := ((hg.2 r hr).2 y hy).1
      exact ⟨fun _ => ⟨sz (by omega), trivial⟩, trivial⟩
    · unfold okTw
      congr 1
      · simp
      · rw [h1]
        rw [Bool.eq_iff_iff]
        simp only [List.all_eq_true, List.mem_map, id, List.mem_flatMap]
        constructor
        · intro h r hr g hgr
          rw [← hgo]; exact h _ ⟨g, ⟨r, hr, hgr⟩, rfl⟩
        · rintro h _ ⟨g, ⟨r, hr, hgr⟩, rfl⟩
          rw [hgo]; exact h r hr g hgr
theorem sp_due {cs : List Nat} {two : Tw} (hc : Gg cs) (hg : G 5 11 two) : Sp (r__law_due cs two) fun v => v = okTw cs two := by
  have hcl : ∀ y ∈ chars cs, Lay .str y := fun y hy => by
    obtain ⟨c, h, rfl⟩ := Mt.chars_mem hy
    refine lay_str.mpr fun d hd => ?_
    rw [List.mem_singleton] at hd; subst hd
    have := hc.2 _ h; omega
  have neg : ∀ g : Int × List Nat × Int, (((!decide ((g.1) = (1 : Int))) && (!decide ((g.1) = (-(1 : Int))))) || ((!memD (g.2.1) (chars cs)) || (!((decide ((0 : Int) ≤ (g.2.2))) && (decide ((g.2.2) < ((two).length : Int))))))) = !okGo cs two.length g := by
    intro g; unfold okGo; simp [Bool.not_and, Bool.not_or]
  refine Sp.lpF (fun i _ => ∀ j r, j < i → two[j]? = some r → r.2.all (okGo cs two.length) = true) (fun _ => False) (fun j r h => by omega) ?_ ?_
  · intro s r i hr hi he hI
    refine Sp.lpTE (fun i _ => ∀ j g, j < i → r.2[j]? = some g → okGo cs two.length g = true) (fun _ => False) (fun x => x = okTw cs two) (fun j r h => by omega) ?_ ?_ ?_
    · intro s g k hgr hk hk2 hK
      have hgg := (hg.2 r hr).2 g hgr
      have hgl := hgg.1
      refine Sp.chk (fun _ => ⟨sz (by have := hc.1; omega), lay_str.mpr fun d hd => by have := hgg.2 d hd; omega, hcl, trivial⟩) (Sp.if0 (fun h => Sp.ret ?_) fun h => Sp.ret ?_)
      · rw [neg] at h
        show false = okTw cs two
        have : okTw cs two ≠ true := fun z => by
          unfold okTw at z
          rw [Bool.and_eq_true, List.all_eq_true] at z
          have := List.all_eq_true.mp (z.2 r hr) g hgr
          rw [this] at h; cases h
        simpa using this
      · rw [neg] at h
        intro j g' hj hg'
        by_cases e : j = k
        · subst e; rw [hk2] at hg'; cases hg'; simpa using h
        · exact hK j g' (by omega) hg'
    · rintro s (h | h)
      · refine Sp.ret ?_
        intro j r' hj hr'
        by_cases e : j = i
        · subst e; rw [he] at hr'; cases hr'
          refine List.all_eq_true.mpr fun g hg' => ?_
          obtain ⟨k, hk⟩ := List.getElem?_of_mem hg'
          exact h k g (List.getElem?_eq_some_iff.mp hk).1 hk
        · exact hI j r' (by omega) hr'
      · cases h
    · intro x hx; exact hx
  · rintro s (h | h)
    · refine Sp.ret ?_
      unfold okTw
      have : two.all (fun r => r.2.all (okGo cs two.length)) = true := List.all_eq_true.mpr fun r hr => by
        obtain ⟨k, hk⟩ := List.getElem?_of_mem hr
        exact h k r (List.getElem?_eq_some_iff.mp hk).1 hk
      rw [this, Bool.and_true]; simp
    · cases h
theorem sp_law {ns : List Int} : Sp (r_law ns) fun v => v = true := by
  refine Sp.chk (rngOk (by omega) (by omega)) ?_
  refine Sp.lpF (fun _ _ => True) (fun _ => False) trivial ?_ (fun _ _ => Sp.ret rfl)
  intro s y i hy hi he _
  have hy := Mt.rng_mem hy
  refine bx hy.1 (by omega) fun b hb => tk hb (by omega) (by omega) fun t b hb t0 t1 => col hb (by dsimp only; omega) (by dsimp only; omega) fun cs b hb hl hc => ?_
  dsimp only at *
  refine Sp.bind (sp_two hb hc (by omega) (by omega)) ?_
  rintro ⟨two, b⟩ ⟨hb, hg, hp⟩
  dsimp only at *
  have hg' : G 5 11 two := ⟨by have := hg.1; omega, fun r hr => by have := hg.2 r hr; exact ⟨by omega, fun g h => (this.2 g h).up (by decide)⟩⟩
  have hcs : Gg cs := ⟨by omega, fun c h => by have := hc c h; omega⟩
  refine Sp.chk (rngOk (by omega) (by omega)) (Sp.chk (by decide) ?_)
  refine Sp.maps (fun _ b => Bx b) (fun r => G 5 11 r) hb ?_ ?_
  · intro b y i _ _ _ hb
    refine Sp.bind (sp_bent hb hc (by omega) (by omega) hg hp) ?_
    rintro ⟨r, b⟩ ⟨h1, h2⟩
    exact Sp.ret ⟨h1, h2⟩
  · intro l b hb hl hG
    have hl : l.length = 4 := hl
    refine Sp.chk (sz (by simp [hl])) (Sp.chk (sz (by simp [hl])) ?_)
    refine Sp.lpTE (fun _ _ => True) (fun _ => False) (fun _ => False) trivial ?_ (fun _ _ => Sp.ret trivial) (fun x hx => hx.elim)
    intro s one i ho _ _ _
    have ho : G 5 11 one := by
      rcases List.mem_append.mp ho with ho | ho
      · rcases List.mem_append.mp ho with ho | ho
        · simp only [List.mem_cons, List.not_mem_nil, or_false] at ho
          rcases ho with rfl | rfl | rfl
          · exact hg'
          · exact ⟨by simp, fun r h => by cases h⟩
          · exact ⟨Nat.le_trans Mt.cut_len hg'.1, fun r h => hg'.2 r (Mt.cut_mem h)⟩
        · exact hG _ ho
      · rw [List.mem_singleton] at ho; subst ho; exact hg'
    refine Sp.bind (sp_is ho) ?_
    rintro v rfl
    have hd := (sp_due hcs ho).to (e__law_due cs one)
    refine Sp.chk (fun _ => ⟨hd.1, trivial⟩) (Sp.if0 (fun h => ?_) fun _ => Sp.ret trivial)
    rw [hd.2] at h; simp at h
theorem fine (ns : List Int) (hl : ns.length ≤ 63) (_ : ∀ z ∈ ns, Builtin.Int.intBits z ≤ 1048576) : ok_law ns ∧ m_law ns = true := sp_law.to (e_law ns)
end Wk

set_option Elab.async false
set_option linter.all false
set_option maxRecDepth 100000
set_option maxHeartbeats 2000000
namespace Wk
open PySem PySem.Spec PyProof.Rows L2 TL Dn
theorem all_mk {l : PySem.W.OpenLaw} {w : World} {K : PySem.W.Frag} {h : Heap} {mg : Str → Option Value} {fa f1 f2 f3 f4 f5 f6 f7 f8 f9 : Addr} (X : K.In h) (G : h.Ns mainGlobals mg) (hfa : mg "law" = some (.ref fa))
    {od1 od2 od3 od4 od5 od6 od7 od8 od9 an1 an2 an3 an4 an5 an6 an7 an8 an9 : Option Addr} {sl1 sl2 sl3 sl4 sl5 sl6 sl7 sl8 sl9 : Array (Option Value)} {oc1 oc2 oc3 oc4 oc5 oc6 oc7 oc8 oc9 kV1 kV2 kV3 kV4 kV5 kV6 kV7 kV8 kV9 dc1 dc2 dc3 dc4 dc5 dc6 dc7 dc8 dc9 pm1 pm2 pm3 pm4 pm5 pm6 pm7 pm8 pm9 cd1 cd2 cd3 cd4 cd5 cd6 cd7 cd8 cd9 ct1 ct2 ct3 ct4 ct5 ct6 ct7 ct8 ct9 : Value}
    (a1 : PySem.W.nsIn K mainGlobals "_law_box" = some (some (.ref f1))) (l1 : K.lookup f1 = some ⟨oc1, od1, .func (PySem.W.fnOf "_law_box" "_law_box" (defArgs st__law_box) (defBody st__law_box) (defScope st__law_box) .none kV1 dc1 pm1 an1 cd1 ct1), sl1⟩) (c1 : PySem.W.codeIn K cd1 "_law_box" = true) (k1 : PySem.W.keepIn K (.ref f1) = true)
    (a2 : PySem.W.nsIn K mainGlobals "_law_take" = some (some (.ref f2))) (l2 : K.lookup f2 = some ⟨oc2, od2, .func (PySem.W.fnOf "_law_take" "_law_take" (defArgs st__law_take) (defBody st__law_take) (defScope st__law_take) .none kV2 dc2 pm2 an2 cd2 ct2), sl2⟩) (c2 : PySem.W.codeIn K cd2 "_law_take" = true) (k2 : PySem.W.keepIn K (.ref f2) = true)
    (a3 : PySem.W.nsIn K mainGlobals "_law_colours" = some (some (.ref f3))) (l3 : K.lookup f3 = some ⟨oc3, od3, .func (PySem.W.fnOf "_law_colours" "_law_colours" (defArgs st__law_colours) (defBody st__law_colours) (defScope st__law_colours) .none kV3 dc3 pm3 an3 cd3 ct3), sl3⟩) (c3 : PySem.W.codeIn K cd3 "_law_colours" = true) (k3 : PySem.W.keepIn K (.ref f3) = true)
    (a4 : PySem.W.nsIn K mainGlobals "_law_two" = some (some (.ref f4))) (l4 : K.lookup f4 = some ⟨oc4, od4, .func (PySem.W.fnOf "_law_two" "_law_two" (defArgs st__law_two) (defBody st__law_two) (defScope st__law_two) .none kV4 dc4 pm4 an4 cd4 ct4), sl4⟩) (c4 : PySem.W.codeIn K cd4 "_law_two" = true) (k4 : PySem.W.keepIn K (.ref f4) = true)
    (a5 : PySem.W.nsIn K mainGlobals "is_going" = some (some (.ref f5))) (l5 : K.lookup f5 = some ⟨oc5, od5, .func (PySem.W.fnOf "is_going" "is_going" (defArgs st_is_going) (defBody st_is_going) (defScope st_is_going) .none kV5 dc5 pm5 an5 cd5 ct5), sl5⟩) (c5 : PySem.W.codeIn K cd5 "is_going" = true) (k5 : PySem.W.keepIn K (.ref f5) = true)
    (a6 : PySem.W.nsIn K mainGlobals "is_two_way" = some (some (.ref f6))) (l6 : K.lookup f6 = some ⟨oc6, od6, .func (PySem.W.fnOf "is_two_way" "is_two_way" (defArgs st_is_two_way) (defBody st_is_two_way) (defScope st_is_two_way) .none kV6 dc6 pm6 an6 cd6 ct6), sl6⟩) (c6 : PySem.W.codeIn K cd6 "is_two_way" = true) (k6 : PySem.W.keepIn K (.ref f6) = true)
    (a7 : PySem.W.nsIn K mainGlobals "_law_bent" = some (some (.ref f7))) (l7 : K.lookup f7 = some ⟨oc7, od7, .func (PySem.W.fnOf "_law_bent" "_law_bent" (defArgs st__law_bent) (defBody st__law_bent) (defScope st__law_bent) .none kV7 dc7 pm7 an7 cd7 ct7), sl7⟩) (c7 : PySem.W.codeIn K cd7 "_law_bent" = true) (k7 : PySem.W.keepIn K (.ref f7) = true)
    (a8 : PySem.W.nsIn K mainGlobals "_law_due" = some (some (.ref f8))) (l8 : K.lookup f8 = some ⟨oc8, od8, .func (PySem.W.fnOf "_law_due" "_law_due" (defArgs st__law_due) (defBody st__law_due) (defScope st__law_due) .none kV8 dc8 pm8 an8 cd8 ct8), sl8⟩) (c8 : PySem.W.codeIn K cd8 "_law_due" = true) (k8 : PySem.W.keepIn K (.ref f8) = true)
    (a9 : PySem.W.nsIn K mainGlobals "law" = some (some (.ref f9))) (l9 : K.lookup f9 = some ⟨oc9, od9, .func (PySem.W.fnOf "law" "law" (defArgs st_law) (defBody st_law) (defScope st_law) .none kV9 dc9 pm9 an9 cd9 ct9), sl9⟩) (c9 : PySem.W.codeIn K cd9 "law" = true) (k9 : PySem.W.keepIn K (.ref f9) = true)
    (z1 : PySem.W.nsIn K mainGlobals "all" = some none) (z2 : PySem.W.nsIn K mainGlobals "bool" = some none) (z3 : PySem.W.nsIn K mainGlobals "int" = some none) (z4 : PySem.W.nsIn K mainGlobals "isinstance" = some none) (z5 : PySem.W.nsIn K mainGlobals "len" = some none) (z6 : PySem.W.nsIn K mainGlobals "list" = some none) (z7 : PySem.W.nsIn K mainGlobals "max" = some none) (z8 : PySem.W.nsIn K mainGlobals "min" = some none) (z9 : PySem.W.nsIn K mainGlobals "range" = some none) (z10 : PySem.W.nsIn K mainGlobals "sorted" = some none) (z11 : PySem.W.nsIn K mainGlobals "tuple" = some none) :
    ∃ fd : FuncData, (∀ (s : Shared) (v : Value), BindsTo s fd ⟨[v], []⟩ [("_law_script", v)]) ∧ ∀ base : Heap, K.In base → base.Ns mainGlobals mg → FnOk l.prog w K mg base CX0 3 fa fd ["_law_script"] (pr_law K) := by
  have e := hfa.symm.trans (PySem.W.mg_of X G a9)
  cases e
  have B : Bt mg := ⟨PySem.W.mg_none_of X G z1, PySem.W.mg_none_of X G z2, PySem.W.mg_none_of X G z3, PySem.W.mg_none_of X G z4, PySem.W.mg_none_of X G z5, PySem.W.mg_none_of X G z6, PySem.W.mg_none_of X G z7, PySem.W.mg_none_of X G z8, PySem.W.mg_none_of X G z9, PySem.W.mg_none_of X G z10, PySem.W.mg_none_of X G z11⟩
  have F1 := fun_mk (st := st__law_box) l1 c1 k1
  have b1 := F1.binds (ps := ["_law_script", "_law_k"]) fun _ _ _ _ _ _ us hl => match us, hl with | [_, _], _ => rfl
  have F2 := fun_mk (st := st__law_take) l2 c2 k2
  have b2 := F2.binds (ps := ["_law_box_here", "_law_many"]) fun _ _ _ _ _ _ us hl => match us, hl with | [_, _], _ => rfl
  have F3 := fun_mk (st := st__law_colours) l3 c3 k3
  have b3 := F3.binds (ps := ["_law_box_here", "_law_many"]) fun _ _ _ _ _ _ us hl => match us, hl with | [_, _], _ => rfl
  have F4 := fun_mk (st := st__law_two) l4 c4 k4
  have b4 := F4.binds (ps := ["_law_box_here", "_law_colours_here", "_law_rows", "_law_goes"]) fun _ _ _ _ _ _ us hl => match us, hl with | [_, _, _, _], _ => rfl
  have F5 := fun_mk (st := st_is_going) l5 c5 k5
  have b5 := F5.binds (ps := ["colours", "two", "going"]) fun _ _ _ _ _ _ us hl => match us, hl with | [_, _, _], _ => rfl
  have F6 := fun_mk (st := st_is_two_way) l6 c6 k6
  have b6 := F6.binds (ps := ["colours", "two"]) fun _ _ _ _ _ _ us hl => match us, hl with | [_, _], _ => rfl
  have F7 := fun_mk (st := st__law_bent) l7 c7 k7
  have b7 := F7.binds (ps := ["_law_box_here", "_law_colours_here", "_law_two_here"]) fun _ _ _ _ _ _ us hl => match us, hl with | [_, _, _], _ => rfl
  have F8 := fun_mk (st := st__law_due) l8 c8 k8
  have b8 := F8.binds (ps := ["_law_colours_here", "_law_two_here"]) fun _ _ _ _ _ _ us hl => match us, hl with | [_, _], _ => rfl
  have F9 := fun_mk (st := st_law) l9 c9 k9
  refine ⟨PySem.W.fnOf "law" "law" (defArgs st_law) (defBody st_law) (defScope st_law) .none kV9 dc9 pm9 an9 cd9 ct9, fun s v => .of_eq rfl, fun base _ _ => ?_⟩
  have Q__law_box : Dn.Cl l.prog w K mg base 1 "_law_box" ["_law_script", "_law_k"] (pr__law_box K) := ⟨f1, _, w__law_box (P := l.prog) (w := w) (base := base) B  F1, PySem.W.mg_of X G a1, k1, b1⟩
  have Q__law_take : Dn.Cl l.prog w K mg base 1 "_law_take" ["_law_box_here", "_law_many"] (pr__law_take K) := ⟨f2, _, w__law_take (P := l.prog) (w := w) (base := base) B  F2, PySem.W.mg_of X G a2, k2, b2⟩
  have Q__law_colours : Dn.Cl l.prog w K mg base 2 "_law_colours" ["_law_box_here", "_law_many"] (pr__law_colours K) := ⟨f3, _, w__law_colours (P := l.prog) (w := w) (base := base) B Q__law_take F3, PySem.W.mg_of X G a3, k3, b3⟩
  have Q__law_two : Dn.Cl l.prog w K mg base 2 "_law_two" ["_law_box_here", "_law_colours_here", "_law_rows", "_law_goes"] (pr__law_two K) := ⟨f4, _, w__law_two (P := l.prog) (w := w) (base := base) B Q__law_take F4, PySem.W.mg_of X G a4, k4, b4⟩
  have Q_is_going : Dn.Cl l.prog w K mg base 1 "is_going" ["colours", "two", "going"] (pr_is_going K) := ⟨f5, _, w_is_going (P := l.prog) (w := w) (base := base) B  F5, PySem.W.mg_of X G a5, k5, b5⟩
  have Q_is_two_way : Dn.Cl l.prog w K mg base 2 "is_two_way" ["colours", "two"] (pr_is_two_way K) := ⟨f6, _, w_is_two_way (P := l.prog) (w := w) (base := base) B Q_is_going F6, PySem.W.mg_of X G a6, k6, b6⟩
  have Q__law_bent : Dn.Cl l.prog w K mg base 2 "_law_bent" ["_law_box_here", "_law_colours_here", "_law_two_here"] (pr__law_bent K) := ⟨f7, _, w__law_bent (P := l.prog) (w := w) (base := base) B Q__law_take F7, PySem.W.mg_of X G a7, k7, b7⟩
  have Q__law_due : Dn.Cl l.prog w K mg base 1 "_law_due" ["_law_colours_here", "_law_two_here"] (pr__law_due K) := ⟨f8, _, w__law_due (P := l.prog) (w := w) (base := base) B  F8, PySem.W.mg_of X G a8, k8, b8⟩
  exact w_law (P := l.prog) (w := w) (base := base) B Q__law_box Q__law_colours Q__law_two Q_is_two_way Q__law_take Q__law_bent Q__law_due F9
theorem walk {l : PySem.W.OpenLaw} {q : Program} {loose : List Str} {XP : (Str → Option Value) → Heap → Prop} {YP : World → Heap → Prop} {d : DefRec} {K : Params → PySem.W.Frag} (hn : l.most = some 63) (hdf : d.params.defaults = [])
    (hY : ∀ (w : World) (h : Heap), YP w h → (K w.params).In h)
    (F : ∀ (w : World) (mg : Str → Option Value) (fa : Addr) (h : Heap), (K w.params).In h → h.Ns mainGlobals mg → mg d.name = some (.ref fa) →
      ∃ fd : FuncData, (∀ (s : Shared) (u : Value), BindsTo s fd ⟨[u], []⟩ [("_law_script", u)]) ∧ ∀ base : Heap, (K w.params).In base → base.Ns mainGlobals mg → FnOk l.prog w (K w.params) mg base CX0 3 fa fd ["_law_script"] (pr_law (K w.params))) :
    PySem.W.WalkO q loose XP YP l.row.toRowW d [] (fun f vs => PySem.call f vs) :=
  L2.walk_ofB (n := 63) (k := 3) (x := "_law_script") (CX := fun _ => CX0) (sp := fun w => pr_law (K w.params)) hn (by decide) hdf ⟨rfl, by decide, by decide⟩ hY F (fun w H a ns hl hb _ hS => ⟨ns, (fine ns hl hb).1, by rw [(fine ns hl hb).2]; exact entry hS⟩) fun _ _ _ _ _ z => z
end Wk
open PySem PySem.W PyProof.Rows
set_option maxRecDepth 100000 in
set_option maxHeartbeats 0 in
theorem PySem.Challenge.cw_walktold_k58_two_way_readers_looked_at_holds : PySem.Challenge.rw_walktold_k58_two_way_readers_looked_at.Holds := by
  w_on; o_law; k_head; (case hw => w_witness2)
  k_fill
  refine Wk.walk (l := PySem.Challenge.rw_walktold_k58_two_way_readers_looked_at) rfl rfl (fun w h Y => PySem.W.kIn_of Y) ?F
  case F =>
    intro w mg fa h KX G hmg
    refine' Wk.all_mk KX G hmg ?a1 ?l1 ?c1 ?k1 ?a2 ?l2 ?c2 ?k2 ?a3 ?l3 ?c3 ?k3 ?a4 ?l4 ?c4 ?k4 ?a5 ?l5 ?c5 ?k5 ?a6 ?l6 ?c6 ?k6 ?a7 ?l7 ?c7 ?k7 ?a8 ?l8 ?c8 ?k8 ?a9 ?l9 ?c9 ?k9 ?z1 ?z2 ?z3 ?z4 ?z5 ?z6 ?z7 ?z8 ?z9 ?z10 ?z11
    (case a1 => k_is); (case l1 => k_is); (case c1 => k_is); (case k1 => k_is); (case a2 => k_is); (case l2 => k_is); (case c2 => k_is); (case k2 => k_is); (case a3 => k_is); (case l3 => k_is); (case c3 => k_is); (case k3 => k_is); (case a4 => k_is); (case l4 => k_is); (case c4 => k_is); (case k4 => k_is); (case a5 => k_is); (case l5 => k_is); (case c5 => k_is); (case k5 => k_is); (case a6 => k_is); (case l6 => k_is); (case c6 => k_is); (case k6 => k_is); (case a7 => k_is); (case l7 => k_is); (case c7 => k_is); (case k7 => k_is); (case a8 => k_is); (case l8 => k_is); (case c8 => k_is); (case k8 => k_is); (case a9 => k_is); (case l9 => k_is); (case c9 => k_is); (case k9 => k_is); (case z1 => k_is); (case z2 => k_is); (case z3 => k_is); (case z4 => k_is); (case z5 => k_is); (case z6 => k_is); (case z7 => k_is); (case z8 => k_is); (case z9 => k_is); (case z10 => k_is); (case z11 => k_is)

