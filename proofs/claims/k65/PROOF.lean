import PyProof.Rows.All
import Wide.All
import OpenK.AllK
import Wide.FinOn
import HandS.ForMost
import HandS.Wide
import HandS.Deep
import HandS.Flow
import HandS.IsInst
import HandS.Replace
import HandS.TupAny
import KE.SortData
import HandS.EndBits
import HandS.Strs
import HandS.Rev
import HandS.Zip
import HandS.TupLe
import PyProof.ReprRoads
import HandS.RevTup
import PyProof.StrOps2
import HandS.TupMul
import HandS.SetFor
import KE.GoesMore
import PyProof.EnumMake
import HandS.Conv
import HandS.More
import HandS.WideBits
import HandS.TryOnly
import HandS.SortKw
import KE.DataMinMax
import PyProof.CallFns
import HandS.SetTxt0
import KE.OsSortAny
import PyProof.StrWalks
import KE.KDictPairs
import HandS.TupSets
import KE.KDictCopyH
import PyProof.Rows.StrJoinStr
import PyProof.JoinWalk
import PyProof.StrLawsJoin
import HandS.Iter
import PySem.Challenge.RW_walktold_k65_how_many
set_option Elab.async false
set_option linter.all false
set_option maxRecDepth 100000
set_option maxHeartbeats 1000000
/-! Dn: a typed reading of the text. Part 1: types, what stands for what, slots, the state's word. -/
namespace Dn
open PySem PySem.Spec PyProof.Rows L2

/-! ### types -/
inductive Ty where
  | int | bool | str | non | scr
  | opt (t : Ty) | lst (t : Ty) | tup (t : Ty)
  | p2 (a b : Ty) | p3 (a b c : Ty) | p4 (a b c d : Ty) | p5 (a b c d e : Ty)
  | iu (t : Ty) | si
@[reducible] def Ty.den : Ty → Type
  | .int => Int
  | .bool => Bool
  | .str => List Nat
  | .non => Unit
  | .scr => List Int
  | .opt t => Option t.den
  | .lst t => List t.den
  | .tup t => List t.den
  | .p2 a b => a.den × b.den
  | .p3 a b c => a.den × b.den × c.den
  | .p4 a b c d => a.den × b.den × c.den × d.den
  | .p5 a b c d e => a.den × b.den × c.den × d.den × e.den
  | .iu t => Int ⊕ List t.den
  | .si => List Nat ⊕ Int
def vS (x : List Nat) : V := .str ⟨x.toArray⟩
theorem vS_inj {x y : List Nat} (h : vS x = vS y) : x = y := by
  unfold vS at h
  injection h with h
  injection h with h
  exact List.toArray_inj h

/-- a tuple whose object is known to have no dict of its own -/
def TupD (H : Hp) (a : Addr) (xs : List V) : Prop := ∃ o : Obj, H a = some (.frz o (.tup xs)) ∧ o.dict = none
theorem TupD.t {K : PySem.W.Frag} {H : Hp} {a : Addr} {xs : List V} (h : TupD H a xs) : SqT K H a xs := by
  obtain ⟨o, e, _⟩ := h; exact .inl (.inr ⟨o, e⟩)
theorem TupD.mono {G G' : Hp} {a : Addr} {xs : List V} (e : Same G G') (h : TupD G a xs) : TupD G' a xs := by
  obtain ⟨o, q, d⟩ := h; exact ⟨o, e _ _ q, d⟩
section
variable (K : PySem.W.Frag)
def Rep : (t : Ty) → Hp → V → t.den → Prop
  | .int, _, v, x => v = .int x
  | .bool, _, v, x => v = .bl x
  | .str, _, v, x => v = vS x
  | .non, _, v, _ => v = .non
  | .scr, G, v, x => ∃ a, v = .ref a ∧ SqL K G a (List.map V.int x)
  | .opt t, G, v, x => match x with
    | none => v = .non
    | some y => v ≠ .non ∧ Rep t G v y
  | .lst t, G, v, x => ∃ a vs, v = .ref a ∧ Rd G a (.lst vs) ∧ Paired (fun u y => Rep t G u y) vs x
  | .tup t, G, v, x => ∃ a vs, v = .ref a ∧ TupD G a vs ∧ Paired (fun u y => Rep t G u y) vs x
  | .si, G, v, x => match x with
    | .inl s => v = vS s
    | .inr i => v = .int i
  | .iu t, G, v, x => match x with
    | .inl i => v = .int i
    | .inr y => ∃ a vs, v = .ref a ∧ TupD G a vs ∧ Paired (fun u z => Rep t G u z) vs y
  | .p2 a b, G, v, x => ∃ p v1 v2, v = .ref p ∧ G p = some (.tup [v1, v2]) ∧ Rep a G v1 x.1 ∧ Rep b G v2 x.2
  | .p3 a b c, G, v, x => ∃ p v1 v2 v3, v = .ref p ∧ G p = some (.tup [v1, v2, v3]) ∧ Rep a G v1 x.1 ∧ Rep b G v2 x.2.1 ∧ Rep c G v3 x.2.2
  | .p4 a b c d, G, v, x => ∃ p v1 v2 v3 v4, v = .ref p ∧ SqT K G p [v1, v2, v3, v4] ∧ Rep a G v1 x.1 ∧ Rep b G v2 x.2.1 ∧ Rep c G v3 x.2.2.1 ∧ Rep d G v4 x.2.2.2
  | .p5 a b c d e, G, v, x => ∃ p v1 v2 v3 v4 v5, v = .ref p ∧ SqT K G p [v1, v2, v3, v4, v5] ∧ Rep a G v1 x.1 ∧ Rep b G v2 x.2.1 ∧ Rep c G v3 x.2.2.1 ∧ Rep d G v4 x.2.2.2.1 ∧ Rep e G v5 x.2.2.2.2
end
section
variable {K : PySem.W.Frag}
theorem pm {α β : Type} {F F' : α → β → Prop} {l : List α} {m : List β} (h : Paired F l m) (f : ∀ a b, F a b → F' a b) : Paired F' l m := by
  induction h with
  | nil => exact .nil
  | cons r _ ih => exact .cons (f _ _ r) ih
theorem rd_mono {G G' : Hp} {a : Addr} {u : HO} (e : Same G G') (h : Rd G a u) : Rd G' a u := by
  rcases h with h | ⟨o, h⟩
  · exact .inl (e _ _ h)
  · exact .inr ⟨o, e _ _ h⟩
theorem sqt_mono {G G' : Hp} {a : Addr} {xs : List V} (e : Same G G') (h : SqT K G a xs) : SqT K G' a xs := by
  rcases h with (h | ⟨o, h⟩) | h
  · exact .inl (.inl (e _ _ h))
  · exact .inl (.inr ⟨o, e _ _ h⟩)
  · exact .inr h
theorem tT {G : Hp} {a : Addr} {xs : List V} (h : G a = some (.tup xs)) : SqT K G a xs := .inl (.inl h)
theorem sql_mono {G G' : Hp} {a : Addr} {xs : List V} (e : Same G G') (h : SqL K G a xs) : SqL K G' a xs := by
  rcases h with (h | ⟨o, h⟩) | h
  · exact .inl (.inl (e _ _ h))
  · exact .inl (.inr ⟨o, e _ _ h⟩)
  · exact .inr h
theorem rep_mono {G G' : Hp} (e : Same G G') : ∀ (t : Ty) (v : V) (x : t.den), Rep K t G v x → Rep K t G' v x
  | .int, _, _, h => h
  | .bool, _, _, h => h
  | .str, _, _, h => h
  | .non, _, _, h => h
  | .scr, _, _, ⟨a, h1, h2⟩ => ⟨a, h1, sql_mono e h2⟩
  | .opt t, v, none, h => h
  | .opt t, v, some y, h => ⟨h.1, rep_mono e t v y h.2⟩
  | .lst t, _, _, ⟨a, vs, h1, h2, h3⟩ => ⟨a, vs, h1, rd_mono e h2, pm h3 fun u y q => rep_mono e t u y q⟩
  | .tup t, _, _, ⟨a, vs, h1, h2, h3⟩ => ⟨a, vs, h1, h2.mono e, pm h3 fun u y q => rep_mono e t u y q⟩
  | .si, _, .inl i, h => h
  | .si, _, .inr i, h => h
  | .iu t, _, .inl i, h => h
  | .iu t, _, .inr y, ⟨a, vs, h1, h2, h3⟩ => ⟨a, vs, h1, h2.mono e, pm h3 fun u y q => rep_mono e t u y q⟩
  | .p2 a b, _, _, ⟨p, v1, v2, h0, h1, h2, h3⟩ => ⟨p, v1, v2, h0, e _ _ h1, rep_mono e a _ _ h2, rep_mono e b _ _ h3⟩
  | .p3 a b c, _, _, ⟨p, v1, v2, v3, h0, h1, h2, h3, h4⟩ => ⟨p, v1, v2, v3, h0, e _ _ h1, rep_mono e a _ _ h2, rep_mono e b _ _ h3, rep_mono e c _ _ h4⟩
  | .p4 a b c d, _, _, ⟨p, v1, v2, v3, v4, h0, h1, h2, h3, h4, h5⟩ => ⟨p, v1, v2, v3, v4, h0, sqt_mono e h1, rep_mono e a _ _ h2, rep_mono e b _ _ h3, rep_mono e c _ _ h4, rep_mono e d _ _ h5⟩
  | .p5 a b c d f, _, _, ⟨p, v1, v2, v3, v4, v5, h0, h1, h2, h3, h4, h5, h6⟩ => ⟨p, v1, v2, v3, v4, v5, h0, sqt_mono e h1, rep_mono e a _ _ h2, rep_mono e b _ _ h3, rep_mono e c _ _ h4, rep_mono e d _ _ h5, rep_mono e f _ _ h6⟩
end
abbrev RepL (K : PySem.W.Frag) (t : Ty) (G : Hp) : List V → List t.den → Prop := Paired (fun u y => Rep K t G u y)
theorem repL_mono {K : PySem.W.Frag} {G G' : Hp} (e : Same G G') {t : Ty} {vs : List V} {xs : List t.den} (h : RepL K t G vs xs) : RepL K t G' vs xs := pm h fun u y q => rep_mono e t u y q
theorem pair_len {α β : Type} {F : α → β → Prop} {l : List α} {m : List β} (h : Paired F l m) : l.length = m.length := by
  induction h with
  | nil => rfl
  | cons _ _ ih => simp [ih]
theorem pair_get {α β : Type} {F : α → β → Prop} : ∀ {l : List α} {m : List β} {i : Nat} {y : β}, Paired F l m → m[i]? = some y → ∃ x, l[i]? = some x ∧ F x y
  | _, _, _, _, .nil, e => by simp at e
  | _, _, 0, _, .cons r _, e => by simp at e; subst e; exact ⟨_, rfl, r⟩
  | _, _, i + 1, y, .cons _ t, e => by
    obtain ⟨x, h1, h2⟩ := pair_get (i := i) (y := y) t (by simpa using e)
    exact ⟨x, by simpa using h1, h2⟩
theorem pair_getL {α β : Type} {F : α → β → Prop} : ∀ {l : List α} {m : List β} {i : Nat} {x : α}, Paired F l m → l[i]? = some x → ∃ y, m[i]? = some y ∧ F x y
  | _, _, _, _, .nil, e => by simp at e
  | _, _, 0, _, .cons r _, e => by simp at e; subst e; exact ⟨_, rfl, r⟩
  | _, _, i + 1, y, .cons _ t, e => by
    obtain ⟨x, h1, h2⟩ := pair_getL (i := i) (x := y) t (by simpa using e)
    exact ⟨x, by simpa using h1, h2⟩
theorem pair_app {α β : Type} {F : α → β → Prop} : ∀ {l l' : List α} {m m' : List β}, Paired F l m → Paired F l' m' → Paired F (l ++ l') (m ++ m')
  | _, _, _, _, .nil, s => s
  | _, _, _, _, .cons r t, s => .cons r (pair_app t s)
theorem pair_take {α β : Type} {F : α → β → Prop} : ∀ {l : List α} {m : List β} (n : Nat), Paired F l m → Paired F (l.take n) (m.take n)
  | _, _, 0, _ => .nil
  | _, _, _ + 1, .nil => .nil
  | _, _, n + 1, .cons r t => .cons r (pair_take n t)
theorem pair_drop {α β : Type} {F : α → β → Prop} : ∀ {l : List α} {m : List β} (n : Nat), Paired F l m → Paired F (l.drop n) (m.drop n)
  | _, _, 0, r => r
  | _, _, _ + 1, .nil => .nil
  | _, _, n + 1, .cons _ t => pair_drop n t
theorem pair_set {α β : Type} {F : α → β → Prop} {x : α} {y : β} (r : F x y) : ∀ {l : List α} {m : List β} (i : Nat), Paired F l m → Paired F (l.set i x) (m.set i y)
  | _, _, _, .nil => .nil
  | _, _, 0, .cons _ t => .cons r t
  | _, _, i + 1, .cons q t => .cons q (pair_set r i t)
theorem pair_erase {α β : Type} {F : α → β → Prop} : ∀ {l : List α} {m : List β} (i : Nat), Paired F l m → Paired F (l.eraseIdx i) (m.eraseIdx i)
  | _, _, _, .nil => .nil
  | _, _, 0, .cons _ t => t
  | _, _, i + 1, .cons q t => .cons q (pair_erase i t)
theorem pair_rev {α β : Type} {F : α → β → Prop} {l : List α} {m : List β} (h : Paired F l m) : Paired F l.reverse m.reverse := by
  induction h with
  | nil => exact .nil
  | cons r _ ih => rw [List.reverse_cons, List.reverse_cons]; exact pair_app ih (.cons r .nil)

/-! ### slots -/
/-- a part of a key: an int, a text -/
def key1 : (t : Ty) → t.den → Key
  | .int, x => .inl x
  | .str, x => .inr ⟨x.toArray⟩
  | _, _ => .inl 0
/-- a key: a tuple of such -/
def keyL : (t : Ty) → t.den → List Key
  | .p2 a b, x => [key1 a x.1, key1 b x.2]
  | .p3 a b c, x => [key1 a x.1, key1 b x.2.1, key1 c x.2.2]
  | _, _ => []
/-- no tuple -/
def NT (o : HO) : Prop := ∀ xs, o ≠ .tup xs
/-- what is owned: a list, a dict, alone at its place -/
inductive Own where
  | lst (t : Ty) (xs : List t.den)
  | dct (t : Ty) (kvs : List (Int × t.den))
  | dtt (k t : Ty) (kvs : List (k.den × t.den))
  | dks (t : Ty) (kvs : List (List Nat × t.den))
inductive Slot where
  | un
  | fr (t : Ty) (x : t.den)
  | ow (pin : Bool) (o : Own)
  | ns (t : Ty) (xss : List (List t.den))
  | mb (t : Ty) (x : Option t.den)
def Slot.isNs : Slot → Bool
  | .ns _ _ => true
  | _ => false
def Slot.isPin : Slot → Bool
  | .ow true _ => true
  | _ => false
def Slot.isOw : Slot → Bool
  | .ow _ _ => true
  | _ => false
def Slot.isLst : Slot → Bool
  | .ow _ (.lst _ _) => true
  | _ => false
def OwnOk (K : PySem.W.Frag) (G : Hp) (h : HO) : Own → Prop
  | .lst t xs => ∃ vs, h = .lst vs ∧ RepL K t G vs xs
  | .dct t kvs => ∃ ws : List (Key × V), h = .dK ws ∧ Paired (fun (w : Key × V) (y : Int × t.den) => w.1 = Sum.inl y.1 ∧ Rep K t G w.2 y.2) ws kvs
  | .dtt k t kvs => ∃ ws : List (List Key × V), h = .dT ws ∧ Paired (fun (w : List Key × V) (y : k.den × t.den) => w.1 = keyL k y.1 ∧ Rep K t G w.2 y.2) ws kvs
  | .dks t kvs => ∃ ws : List (Key × V), h = .dK ws ∧ Paired (fun (w : Key × V) (y : List Nat × t.den) => w.1 = Sum.inr ⟨y.1.toArray⟩ ∧ Rep K t G w.2 y.2) ws kvs
theorem own_mono {K : PySem.W.Frag} {G G' : Hp} (e : Same G G') {h : HO} : ∀ {o : Own}, OwnOk K G h o → OwnOk K G' h o
  | .lst _ _, ⟨vs, h1, h2⟩ => ⟨vs, h1, repL_mono e h2⟩
  | .dct t _, ⟨ws, h1, h2⟩ => ⟨ws, h1, pm h2 fun _ _ h => ⟨h.1, rep_mono e t _ _ h.2⟩⟩
  | .dtt _ t _, ⟨ws, h1, h2⟩ => ⟨ws, h1, pm h2 fun _ _ h => ⟨h.1, rep_mono e t _ _ h.2⟩⟩
  | .dks t _, ⟨ws, h1, h2⟩ => ⟨ws, h1, pm h2 fun _ _ h => ⟨h.1, rep_mono e t _ _ h.2⟩⟩
theorem own_nt {K : PySem.W.Frag} {G : Hp} {h : HO} : ∀ {o : Own}, OwnOk K G h o → NT h
  | .lst _ _, ⟨_, h1, _⟩, _, z => by rw [h1] at z; cases z
  | .dct _ _, ⟨_, h1, _⟩, _, z => by rw [h1] at z; cases z
  | .dtt _ _ _, ⟨_, h1, _⟩, _, z => by rw [h1] at z; cases z
  | .dks _ _, ⟨_, h1, _⟩, _, z => by rw [h1] at z; cases z
/-- the fixed part: cells that stay, the box's address -/
structure Fx where
  T : Hp
  b : Addr
def SlotOk (K : PySem.W.Frag) (F : Fx) (G H : Hp) (s : Option (Option V)) : Slot → Prop
  | .un => True
  | .ns _ _ => True
  | .fr t x => ∃ v, s = some (some v) ∧ Rep K t G v x
  | .mb t x => ∀ y, x = some y → ∃ v, s = some (some v) ∧ Rep K t G v y
  | .ow pin o => ∃ p ho, s = some (some (.ref p)) ∧ G p = none ∧ F.T p = none ∧ H p = some ho ∧ OwnOk K G ho o ∧ (pin = true → p = F.b)
/-- a list of lists of its own: at most one, at places that nothing else has -/
def NsOk (K : PySem.W.Frag) (F : Fx) (G : Hp) (σ : L2.St) (H : Hp) (Γ : List Slot) : Prop :=
  ∀ (i : Nat) (t : Ty) (xss : List (List t.den)), Γ[i]? = some (.ns t xss) → (∀ (j : Nat) (s : Slot), Γ[j]? = some s → s.isNs = true → j = i) ∧
    ∃ (p : Addr) (as : List Addr) (vss : List (List V)), σ[i]? = some (some (.ref p)) ∧ H p = some (.lst (as.map V.ref)) ∧ (p :: as).Nodup ∧ Paired (fun a vs => H a = some (.lst vs)) as vss ∧ Paired (fun vs xs => RepL K t G vs xs) vss xss ∧
      ∀ a ∈ p :: as, G a = none ∧ F.T a = none ∧ ∀ (j : Nat) (s : Slot), Γ[j]? = some s → s.isOw = true → σ[j]? ≠ some (some (.ref a))
theorem NsOk.no {K : PySem.W.Frag} {F : Fx} {G : Hp} {σ : L2.St} {H : Hp} {Γ : List Slot} (h : ∀ (i : Nat) (s : Slot), Γ[i]? = some s → s.isNs = false) : NsOk K F G σ H Γ := fun i t xss e => by
  have := h i _ e; cases this
theorem pairs_cell {H : Hp} {as : List Addr} {vss : List (List V)} (h : Paired (fun a vs => H a = some (.lst vs)) as vss) {a : Addr} (ha : a ∈ as) : ∃ vs, H a = some (.lst vs) := by
  induction h with
  | nil => cases ha
  | cons r _ ih =>
    rcases List.mem_cons.mp ha with rfl | q
    · exact ⟨_, r⟩
    · exact ih q
theorem pairs_mem {α β : Type} {P Q : α → β → Prop} {as : List α} {bs : List β} (h : Paired P as bs) (f : ∀ a b, a ∈ as → P a b → Q a b) : Paired Q as bs := by
  induction h with
  | nil => exact .nil
  | cons r _ ih => exact .cons (f _ _ (List.mem_cons_self ..) r) (ih fun a b m => f a b (List.mem_cons_of_mem _ m))
theorem NsOk.goN {K : PySem.W.Frag} {F F' : Fx} {G G' : Hp} {σ σ' : L2.St} {H H' : Hp} {Γ Γ' : List Slot} (N : NsOk K F G σ H Γ)
    (hΓ : ∀ (i : Nat) (t : Ty) (xss : List (List t.den)), Γ'[i]? = some (.ns t xss) → Γ[i]? = some (.ns t xss) ∧ σ'[i]? = σ[i]?) (hG : Same G G')
    (hc : ∀ (a : Addr) (o : HO), H a = some o → NT o → G a = none → F.T a = none → (∀ (j : Nat) (s : Slot), Γ[j]? = some s → s.isOw = true → σ[j]? ≠ some (some (.ref a))) →
      H' a = some o ∧ G' a = none ∧ F'.T a = none ∧ ∀ (j : Nat) (s : Slot), Γ'[j]? = some s → s.isOw = true → σ'[j]? ≠ some (some (.ref a))) : NsOk K F' G' σ' H' Γ' := fun i t xss e => by
  obtain ⟨e1, e2⟩ := hΓ i t xss e
  obtain ⟨one, p, as, vss, h1, h2, h3, h4, h5, h6⟩ := N i t xss e1
  have hp := h6 p (List.mem_cons_self ..)
  refine ⟨fun j s ej sj => ?_, p, as, vss, e2.trans h1, (hc p _ h2 (fun _ z => by cases z) hp.1 hp.2.1 hp.2.2).1, h3, pairs_mem h4 fun a vs m q => ?_, pm h5 fun vs xs q => repL_mono hG q, fun a m => ?_⟩
  · cases s with
    | ns t' x' => exact one j _ (hΓ j t' x' ej).1 rfl
    | _ => cases sj
  · have ha := h6 a (List.mem_cons_of_mem _ m)
    exact (hc a _ q (fun _ z => by cases z) ha.1 ha.2.1 ha.2.2).1
  · have ha := h6 a m
    have ex : ∃ o, H a = some o ∧ NT o := by
      rcases List.mem_cons.mp m with rfl | m
      · exact ⟨_, h2, fun _ z => by cases z⟩
      · obtain ⟨vs, q⟩ := pairs_cell h4 m; exact ⟨_, q, fun _ z => by cases z⟩
    obtain ⟨o, q, hn⟩ := ex
    exact (hc a o q hn ha.1 ha.2.1 ha.2.2).2
theorem NsOk.go {K : PySem.W.Frag} {F F' : Fx} {G G' : Hp} {σ σ' : L2.St} {H H' : Hp} {Γ Γ' : List Slot} (N : NsOk K F G σ H Γ)
    (hΓ : ∀ (i : Nat) (t : Ty) (xss : List (List t.den)), Γ'[i]? = some (.ns t xss) → Γ[i]? = some (.ns t xss) ∧ σ'[i]? = σ[i]?) (hG : Same G G')
    (hc : ∀ (a : Addr) (o : HO), H a = some o → G a = none → F.T a = none → (∀ (j : Nat) (s : Slot), Γ[j]? = some s → s.isOw = true → σ[j]? ≠ some (some (.ref a))) →
      H' a = some o ∧ G' a = none ∧ F'.T a = none ∧ ∀ (j : Nat) (s : Slot), Γ'[j]? = some s → s.isOw = true → σ'[j]? ≠ some (some (.ref a))) : NsOk K F' G' σ' H' Γ' := N.goN hΓ hG fun a o h1 _ h2 h3 h4 => hc a o h1 h2 h3 h4
structure Wd (K : PySem.W.Frag) (F : Fx) (G : Hp) (σ : L2.St) (H : Hp) (Γ : List Slot) : Prop where
  len : σ.length = Γ.length
  gh : Same G H
  th : Same F.T H
  tg : ∀ b o, F.T b = some o → NT o → G b = none
  sl : ∀ (i : Nat) (s : Slot), Γ[i]? = some s → SlotOk K F G H (σ[i]?) s
  dj : ∀ (i j : Nat) (s s' : Slot) (p : Addr), i ≠ j → Γ[i]? = some s → s.isOw = true → Γ[j]? = some s' → s'.isOw = true → σ[i]? = some (some (.ref p)) → σ[j]? = some (some (.ref p)) → False
  ns : NsOk K F G σ H Γ

/-! ### judgements -/
def WPE (X : Cx) (e : Expr) : TE := fun σ H Q => ∀ (pins : List (Addr × Obj)) (s : Shared), Inv X pins σ H s → wpAny (model X.prog X.w) X.A (eval e X.env) (EP X pins σ Q) X.xe s
def WPT (X : Cx) (e : Expr) : TT := fun σ H Q => ∀ (pins : List (Addr × Obj)) (s : Shared), Inv X pins σ H s → wpAny (model X.prog X.w) X.A (isTrue e X.env (eval e X.env)) (TP X pins σ Q) X.xe s
def WPW (X : Cx) (e : Expr) : TT := fun σ H Q => ∀ (wh : Sem Value) (pins : List (Addr × Obj)) (s : Shared), Inv X pins σ H s → wpAny (model X.prog X.w) X.A (isTrue e X.env wh) (TP X pins σ Q) X.xe s
def WPA (X : Cx) (es : List Expr) : TA := fun σ H Q => ∀ (pos : Pos) (pins : List (Addr × Obj)) (s : Shared), Inv X pins σ H s → wpAny (model X.prog X.w) X.A (spliced (backTo pos (starEach es X.env))) (AP X pins σ Q) X.xe s
def WPS (X : Cx) (st : Stmt) : TS := fun D σ H => ∀ (pins : List (Addr × Obj)) (s : Shared), Inv X pins σ H s → wpAny (model X.prog X.w) X.A (exec st X.env) (SP X pins D) X.xe s
def WPSs (X : Cx) (st : List Stmt) : TS := fun D σ H => ∀ (pins : List (Addr × Obj)) (s : Shared), Inv X pins σ H s → wpAny (model X.prog X.w) X.A (execs st X.env) (SP X pins D) X.xe s
def WPO (X : Cx) (e : Option Expr) : TO := fun σ H Q => ∀ t, PO X e t → t σ H Q → True
section
variable {X : Cx}
theorem pe_wp {e : Expr} : PE X e (WPE X e) := ⟨fun pins s σ H Q I h => h pins s I⟩
theorem pt_wp {e : Expr} : PT X e (WPT X e) := ⟨fun pins s σ H Q I h => h pins s I⟩
theorem pw_wp {e : Expr} : PW X e (WPW X e) := ⟨fun wh pins s σ H Q I h => h wh pins s I⟩
theorem pa_wp {es : List Expr} : PA X es (WPA X es) := ⟨fun pos pins s σ H Q I h => h pos pins s I⟩
theorem ps_wp {st : Stmt} : PS X st (WPS X st) := ⟨fun pins s σ H D I h => h pins s I⟩
theorem pss_wp {st : List Stmt} : PSs X st (WPSs X st) := ⟨fun pins s σ H D I h => h pins s I⟩
theorem wpe_of {e : Expr} {t : TE} {σ : L2.St} {H : Hp} {Q : VK} (p : PE X e t) (h : t σ H Q) : WPE X e σ H Q := fun pins s I => p.run pins s σ H Q I h
theorem wpt_of {e : Expr} {t : TT} {σ : L2.St} {H : Hp} {Q : Bool → Hp → Prop} (p : PT X e t) (h : t σ H Q) : WPT X e σ H Q := fun pins s I => p.run pins s σ H Q I h
theorem wpw_of {e : Expr} {t : TT} {σ : L2.St} {H : Hp} {Q : Bool → Hp → Prop} (p : PW X e t) (h : t σ H Q) : WPW X e σ H Q := fun wh pins s I => p.run wh pins s σ H Q I h
theorem wpa_of {es : List Expr} {t : TA} {σ : L2.St} {H : Hp} {Q : List V → Hp → Prop} (p : PA X es t) (h : t σ H Q) : WPA X es σ H Q := fun pos pins s I => p.run pos pins s σ H Q I h
theorem wps_of {st : Stmt} {t : TS} {σ : L2.St} {H : Hp} {D : Ends} (p : PS X st t) (h : t D σ H) : WPS X st D σ H := fun pins s I => p.run pins s σ H D I h
theorem wpss_of {st : List Stmt} {t : TS} {σ : L2.St} {H : Hp} {D : Ends} (p : PSs X st t) (h : t D σ H) : WPSs X st D σ H := fun pins s I => p.run pins s σ H D I h
end

/-- te gives x of type t, leaving Γ' -/
def Ev (K : PySem.W.Frag) (te : TE) (Γ : List Slot) (t : Ty) (x : t.den) (Γ' : List Slot) : Prop :=
  ∀ (F : Fx) (G : Hp) (σ : L2.St) (H : Hp), Wd K F G σ H Γ → ∀ Q : VK, (∀ v G' H', Same G G' → Wd K F G' σ H' Γ' → Rep K t G' v x → Q v H') → te σ H Q
/-- te gives a thing of its own at a new place -/
def EvO (K : PySem.W.Frag) (te : TE) (Γ : List Slot) (o : Own) (Γ' : List Slot) : Prop :=
  ∀ (F : Fx) (G : Hp) (σ : L2.St) (H : Hp), Wd K F G σ H Γ → ∀ Q : VK, (∀ p ho G' H', Same G G' → Wd K { F with T := upd F.T p ho } G' σ H' Γ' → F.T p = none → OwnOk K G' ho o → Q (.ref p) H') → te σ H Q
def EvT (K : PySem.W.Frag) (tt : TT) (Γ : List Slot) (b : Bool) (Γ' : List Slot) : Prop :=
  ∀ (F : Fx) (G : Hp) (σ : L2.St) (H : Hp), Wd K F G σ H Γ → ∀ Q : Bool → Hp → Prop, (∀ G' H', Same G G' → Wd K F G' σ H' Γ' → Q b H') → tt σ H Q
abbrev DE (X : Cx) (e : Expr) (Γ : List Slot) (t : Ty) (x : t.den) (Γ' : List Slot) : Prop := Ev X.K (WPE X e) Γ t x Γ'
abbrev DO (X : Cx) (e : Expr) (Γ : List Slot) (o : Own) (Γ' : List Slot) : Prop := EvO X.K (WPE X e) Γ o Γ'
abbrev DT (X : Cx) (e : Expr) (Γ : List Slot) (b : Bool) (Γ' : List Slot) : Prop := EvT X.K (WPT X e) Γ b Γ'
abbrev DW (X : Cx) (e : Expr) (Γ : List Slot) (b : Bool) (Γ' : List Slot) : Prop := EvT X.K (WPW X e) Γ b Γ'
end Dn

set_option Elab.async false
set_option linter.all false
set_option maxRecDepth 100000
set_option maxHeartbeats 1000000
/-! Dn, part 2: expressions. -/
namespace Dn
open PySem PySem.Spec PyProof.Rows L2 TL

theorem same_upd {H : Hp} {p : Addr} {o : HO} (h : H p = none) : Same H (upd H p o) := fun b x e => by
  rw [upd_ne (ne_of_none e h)]
  exact e
theorem set_get {Γ : List Slot} {i j : Nat} {s s' : Slot} (e : (Γ.set i s)[j]? = some s') : (i = j ∧ s' = s ∧ i < Γ.length) ∨ (i ≠ j ∧ Γ[j]? = some s') := by
  by_cases h : i = j
  · subst h
    have il : i < Γ.length := by have := (List.getElem?_eq_some_iff.mp e).1; rwa [List.length_set] at this
    rw [List.getElem?_set_self il] at e; cases e
    exact .inl ⟨rfl, rfl, il⟩
  · rw [List.getElem?_set_ne h] at e; exact .inr ⟨h, e⟩
theorem set_ns {Γ : List Slot} {i j : Nat} {s : Slot} {t : Ty} {xss : List (List t.den)} (hs : s.isNs = false) (e : (Γ.set i s)[j]? = some (.ns t xss)) : i ≠ j ∧ Γ[j]? = some (.ns t xss) := by
  rcases set_get e with ⟨_, h, _⟩ | h
  · rw [← h] at hs; cases hs
  · exact h
theorem set_ow {Γ : List Slot} {i j : Nat} {s s' : Slot} (hs : s.isOw = false) (e : (Γ.set i s)[j]? = some s') (o : s'.isOw = true) : i ≠ j ∧ Γ[j]? = some s' := by
  rcases set_get e with ⟨_, h, _⟩ | h
  · rw [h, hs] at o; cases o
  · exact h
section
variable {K : PySem.W.Frag} {F : Fx} {G G' H : Hp} {σ : L2.St} {Γ : List Slot} {p : Addr} {ho : HO}
theorem slot_of {Γ : List Slot} {i : Nat} {s : Slot} (W : Wd K F G σ H Γ) (h : Γ[i]? = some s) : SlotOk K F G H (σ[i]?) s := W.sl i s h
theorem Wd.gn (W : Wd K F G σ H Γ) (h : H p = none) : G p = none := W.gh.free h
theorem Wd.tn (W : Wd K F G σ H Γ) (h : H p = none) : F.T p = none := W.th.free h
/-- a new object, held aside -/
theorem Wd.new (W : Wd K F G σ H Γ) (h : H p = none) : Wd K { F with T := upd F.T p ho } G σ (upd H p ho) Γ where
  len := W.len
  gh := W.gh.trans (same_upd h)
  th := fun b o e => by
    change upd F.T p ho b = some o at e
    by_cases hb : b = p
    · subst hb; rw [upd_same] at e ⊢; exact e
    · rw [upd_ne hb] at e ⊢; exact W.th b o e
  tg := fun b o e hn => by
    change upd F.T p ho b = some o at e
    by_cases hb : b = p
    · subst hb; exact W.gn h
    · rw [upd_ne hb] at e; exact W.tg b o e hn
  sl := fun i s e => by
    have q := W.sl i s e
    cases s with
    | un => exact q
    | fr t x => exact q
    | mb t x => exact q
    | ow pin o =>
      obtain ⟨a, ho', h1, h2, h3, h4, h5, h6⟩ := q
      have ne : a ≠ p := ne_of_none h4 h
      exact ⟨a, ho', h1, h2, (by show upd F.T p ho a = none; rw [upd_ne ne]; exact h3), by rw [upd_ne ne]; exact h4, h5, h6⟩
    | ns t x => trivial
  dj := W.dj
  ns := W.ns.go (fun _ _ _ e => ⟨e, rfl⟩) (Same.refl G) fun a o h1 h2 h3 h4 => by
    have ne : a ≠ p := ne_of_none h1 h
    exact ⟨by rw [upd_ne ne]; exact h1, h2, (by show upd F.T p ho a = none; rw [upd_ne ne]; exact h3), h4⟩
/-- what is held aside is let go frozen -/
theorem Wd.freeze (W : Wd K { F with T := upd F.T p ho } G σ H Γ) (hT : F.T p = none) (hn0 : NT ho) : Wd K F (upd G p ho) σ H Γ where
  len := W.len
  gh := fun b o e => by
    by_cases hb : b = p
    · subst hb; rw [upd_same] at e; exact W.th b o (by show upd F.T b ho b = _; rw [upd_same]; exact e)
    · rw [upd_ne hb] at e; exact W.gh b o e
  th := fun b o e => W.th b o (by show upd F.T p ho b = _; rw [upd_ne (ne_of_none e hT)]; exact e)
  tg := fun b o e hn => by
    have hb : b ≠ p := ne_of_none e hT
    rw [upd_ne hb]; exact W.tg b o (by show upd F.T p ho b = _; rw [upd_ne hb]; exact e) hn
  sl := fun i s e => by
    have q := W.sl i s e
    have gp : G p = none := W.tg p ho (by show upd F.T p ho p = _; rw [upd_same]) hn0
    have sm : Same G (upd G p ho) := same_upd gp
    cases s with
    | un => exact q
    | fr t x => obtain ⟨v, h1, h2⟩ := q; exact ⟨v, h1, rep_mono sm t v x h2⟩
    | mb t x => exact fun y hy => by obtain ⟨v, h1, h2⟩ := q y hy; exact ⟨v, h1, rep_mono sm t v y h2⟩
    | ow pin o =>
      obtain ⟨a, ho', h1, h2, h3, h4, h5, h6⟩ := q
      have h3' : upd F.T p ho a = none := h3
      have ne : a ≠ p := fun z => by subst z; rw [upd_same] at h3'; cases h3'
      rw [upd_ne ne] at h3'
      exact ⟨a, ho', h1, by rw [upd_ne ne]; exact h2, h3', h4, own_mono sm h5, h6⟩
    | ns t x => trivial
  dj := W.dj
  ns := W.ns.go (fun _ _ _ e => ⟨e, rfl⟩) (same_upd (W.tg p ho (by show upd F.T p ho p = _; rw [upd_same]) hn0)) fun a o h1 h2 h3 h4 => by
    have h3' : upd F.T p ho a = none := h3
    have ne : a ≠ p := fun z => by subst z; rw [upd_same] at h3'; cases h3'
    rw [upd_ne ne] at h3'
    exact ⟨h1, by rw [upd_ne ne]; exact h2, h3', h4⟩
theorem Wd.held (W : Wd K { F with T := upd F.T p ho } G σ H Γ) : H p = some ho ∧ (NT ho → G p = none) := by
  have e : upd F.T p ho p = some ho := upd_same
  exact ⟨W.th p ho e, fun hn => W.tg p ho e hn⟩
/-- .. or forgotten -/
theorem Wd.drop (W : Wd K { F with T := upd F.T p ho } G σ H Γ) (hT : F.T p = none) : Wd K F G σ H Γ where
  len := W.len
  gh := W.gh
  th := fun b o e => W.th b o (by show upd F.T p ho b = _; rw [upd_ne (ne_of_none e hT)]; exact e)
  tg := fun b o e hn => W.tg b o (by show upd F.T p ho b = _; rw [upd_ne (ne_of_none e hT)]; exact e) hn
  sl := fun i s e => by
    have q := W.sl i s e
    cases s with
    | un => exact q
    | fr t x => exact q
    | mb t x => exact q
    | ow pin o =>
      obtain ⟨a, ho', h1, h2, h3, h4, h5, h6⟩ := q
      have h3' : upd F.T p ho a = none := h3
      have ne : a ≠ p := fun z => by subst z; rw [upd_same] at h3'; cases h3'
      rw [upd_ne ne] at h3'
      exact ⟨a, ho', h1, h2, h3', h4, h5, h6⟩
    | ns t x => trivial
  dj := W.dj
  ns := W.ns.go (fun _ _ _ e => ⟨e, rfl⟩) (Same.refl G) fun a o h1 h2 h3 h4 => by
    have h3' : upd F.T p ho a = none := h3
    have ne : a ≠ p := fun z => by subst z; rw [upd_same] at h3'; cases h3'
    rw [upd_ne ne] at h3'
    exact ⟨h1, h2, h3', h4⟩
/-- a new object at once frozen -/
theorem Wd.newG (W : Wd K F G σ H Γ) (h : H p = none) : Wd K F (upd G p ho) σ (upd H p ho) Γ where
  len := W.len
  gh := fun b o e => by
    by_cases hb : b = p
    · subst hb; rw [upd_same] at e ⊢; exact e
    · rw [upd_ne hb] at e ⊢; exact W.gh b o e
  th := W.th.trans (same_upd h)
  tg := fun b o e hn => by
    have hb : b ≠ p := fun z => by subst z; rw [W.tn h] at e; cases e
    rw [upd_ne hb]; exact W.tg b o e hn
  sl := fun i s e => by
    have q := W.sl i s e
    have sm : Same G (upd G p ho) := same_upd (W.gn h)
    cases s with
    | un => exact q
    | fr t x => obtain ⟨v, h1, h2⟩ := q; exact ⟨v, h1, rep_mono sm t v x h2⟩
    | mb t x => exact fun y hy => by obtain ⟨v, h1, h2⟩ := q y hy; exact ⟨v, h1, rep_mono sm t v y h2⟩
    | ow pin o =>
      obtain ⟨a, ho', h1, h2, h3, h4, h5, h6⟩ := q
      have ne : a ≠ p := ne_of_none h4 h
      exact ⟨a, ho', h1, by rw [upd_ne ne]; exact h2, h3, by rw [upd_ne ne]; exact h4, own_mono sm h5, h6⟩
    | ns t x => trivial
  dj := W.dj
  ns := W.ns.go (fun _ _ _ e => ⟨e, rfl⟩) (same_upd (W.gn h)) fun a o h1 h2 h3 h4 => by
    have ne : a ≠ p := ne_of_none h1 h
    exact ⟨by rw [upd_ne ne]; exact h1, by rw [upd_ne ne]; exact h2, h3, h4⟩
/-- a tuple that stands in the heap, from now on known -/
theorem Wd.addTup {xs : List V} (W : Wd K F G σ H Γ) (h : H p = some (.tup xs)) : ∃ G', Same G G' ∧ G' p = some (.tup xs) ∧ Wd K F G' σ H Γ := by
  by_cases hg : G p = none
  · have sm : Same G (upd G p (.tup xs)) := same_upd hg
    refine ⟨upd G p (.tup xs), sm, upd_same, ?_⟩
    exact {
      len := W.len
      gh := fun b o e => by
        by_cases hb : b = p
        · subst hb; rw [upd_same] at e; rw [h]; exact e
        · rw [upd_ne hb] at e; exact W.gh b o e
      th := W.th
      tg := fun b o e hn => by
        have hb : b ≠ p := fun z => by
          subst z
          have := W.th b o e
          rw [h] at this; cases this
          exact hn xs rfl
        rw [upd_ne hb]; exact W.tg b o e hn
      sl := fun i s e => by
        have q := W.sl i s e
        cases s with
        | un => exact q
        | fr t x => obtain ⟨v, h1, h2⟩ := q; exact ⟨v, h1, rep_mono sm t v x h2⟩
        | mb t x => exact fun y hy => by obtain ⟨v, h1, h2⟩ := q y hy; exact ⟨v, h1, rep_mono sm t v y h2⟩
        | ow pin o =>
          obtain ⟨a, ho', h1, h2, h3, h4, h5, h6⟩ := q
          have ne : a ≠ p := fun z => by
            subst z
            rw [h] at h4; cases h4
            exact own_nt h5 xs rfl
          exact ⟨a, ho', h1, by rw [upd_ne ne]; exact h2, h3, h4, own_mono sm h5, h6⟩
        | ns t x => trivial
      dj := W.dj
      ns := fun i t xss e => by
        obtain ⟨one, q, as, vss, h1, h2, h3, h4, h5, h6⟩ := W.ns i t xss e
        refine ⟨one, q, as, vss, h1, h2, h3, h4, pm h5 fun vs xs q => repL_mono sm q, fun a m => ?_⟩
        obtain ⟨z1, z2, z3⟩ := h6 a m
        have ne : a ≠ p := fun z => by
          subst z
          rcases List.mem_cons.mp m with rfl | m
          · rw [h] at h2; cases h2
          · obtain ⟨vs, q⟩ := pairs_cell h4 m
            rw [h] at q; cases q
        exact ⟨by rw [upd_ne ne]; exact z1, z2, z3⟩ }
  · obtain ⟨o, e⟩ := Option.ne_none_iff_exists'.mp hg
    have := W.gh p o e
    rw [h] at this; cases this
    exact ⟨G, Same.refl G, e, W⟩
theorem own_rep {t : Ty} {xs : List t.den} (W : Wd K { F with T := upd F.T p ho } G σ H Γ) (o : OwnOk K G ho (.lst t xs)) : Rep K (.lst t) (upd G p ho) (.ref p) xs := by
  obtain ⟨vs, rfl, r⟩ := o
  exact ⟨p, vs, rfl, .inl upd_same, repL_mono (same_upd (W.held.2 (fun _ z => by cases z))) r⟩
end

section
variable {K : PySem.W.Frag} {ta tb tc te : TE} {Γ Γ1 Γ2 Γ3 : List Slot} {t u τ : Ty} {x : t.den} {y : u.den} {c : τ.den}
theorem ev_frz {o : List t.den} (h : EvO K te Γ (.lst t o) Γ1) : Ev K te Γ (.lst t) o Γ1 := fun F G σ H W Q q =>
  h F G σ H W Q fun p ho G' H' sg W' hT ok => q (.ref p) (upd G' p ho) H' (sg.trans (same_upd (W'.held.2 (own_nt ok)))) (W'.freeze hT (own_nt ok)) (own_rep W' ok)
/-- two operands, an operation that makes nothing -/
theorem ev_op {r : R2} (ha : Ev K ta Γ t x Γ1) (hb : Ev K tb Γ1 u y Γ2)
    (hr : ∀ (G H : Hp) (v w : V) (Q : VK), Same G H → Rep K t G v x → Rep K u G w y → (∀ z, Rep K τ G z c → Q z H) → r v w H Q) : Ev K (tOp r ta tb) Γ τ c Γ2 := fun F G σ H W Q q =>
  ha F G σ H W _ fun v G1 H1 s1 W1 r1 => hb F G1 σ H1 W1 _ fun w G2 H2 s2 W2 r2 =>
    hr G2 H2 v w Q W2.gh (rep_mono s2 t v x r1) r2 fun z rz => q z G2 H2 (s1.trans s2) W2 rz
theorem ev_un {r : V → Hp → VK → Prop} (ha : Ev K ta Γ t x Γ1)
    (hr : ∀ (G H : Hp) (v : V) (Q : VK), Same G H → Rep K t G v x → (∀ z, Rep K τ G z c → Q z H) → r v H Q) : Ev K (tUn r ta) Γ τ c Γ1 := fun F G σ H W Q q =>
  ha F G σ H W _ fun v G1 H1 s1 W1 r1 => hr G1 H1 v Q W1.gh r1 fun z rz => q z G1 H1 s1 W1 rz
/-- two operands, an operation that makes a thing -/
theorem ev_opO {r : R2} {o : Own} (ha : Ev K ta Γ t x Γ1) (hb : Ev K tb Γ1 u y Γ2)
    (hr : ∀ (G H : Hp) (v w : V) (Q : VK), Same G H → Rep K t G v x → Rep K u G w y → (∀ p ho, H p = none → OwnOk K G ho o → Q (.ref p) (upd H p ho)) → r v w H Q) : EvO K (tOp r ta tb) Γ o Γ2 := fun F G σ H W Q q =>
  ha F G σ H W _ fun v G1 H1 s1 W1 r1 => hb F G1 σ H1 W1 _ fun w G2 H2 s2 W2 r2 =>
    hr G2 H2 v w Q W2.gh (rep_mono s2 t v x r1) r2 fun p ho hp ok => q p ho G2 (upd H2 p ho) (s1.trans s2) (W2.new hp) (W2.tn hp) ok
theorem ev_c {v : V} (h : ∀ G, Rep K τ G v c) : Ev K (tC v) Γ τ c Γ := fun F G σ H W Q q => q v G H (Same.refl G) W (h G)
theorem ev_var {i : Nat} {x : t.den} (h : Γ[i]? = some (.fr t x)) : Ev K (tVar i) Γ t x Γ := fun F G σ H W Q q => by
  obtain ⟨v, h1, h2⟩ := W.sl i _ h
  exact ⟨v, h1, q v G H (Same.refl G) W h2⟩
end

/-- sizes that are let by -/
def Sz (n : Nat) : Prop := n ≤ 100000
theorem Sz.le {n : Nat} (h : Sz n) : n ≤ sizeLine := Nat.le_trans h (by decide)
theorem Sz.lt {n : Nat} (h : Sz n) : n < sizeLine := Nat.lt_of_le_of_lt h (by decide)
/-- an int's size, for * -/
def MulOk (i j : Int) : Prop := i.natAbs.log2 + j.natAbs.log2 < 1000000
def DivOk (j : Int) : Prop := 0 < j ∧ j.natAbs.log2 < 9000
theorem len_mk (x : List Nat) : (⟨x.toArray⟩ : Str).length = x.length := by simp [Str.length]
theorem mk_tl (x : List Nat) : tl (⟨x.toArray⟩ : Str) = x := rfl

section
variable {X : Cx} {a b e : Expr} {pos : Pos} {Γ Γ1 Γ2 Γ3 : List Slot}
/-! ### names, constants -/
theorem de_var (i : Nat) {t : Ty} {x : t.den} {n : Str} (h : Γ[i]? = some (.fr t x) := by rfl) (hN : X.N[i]? = some n := by rfl) (hv : Vis X.env.scope n := by first | exact Or.inl rfl | exact Or.inr (Or.inl rfl) | exact Or.inr (Or.inr rfl))
    (hd : (n == ("__debug__" : Str)) = false := by decide) (hcd : (n == ("__classdict__" : Str)) = false := by decide) : DE X (.Name n pos) Γ t x Γ := fun F G σ H W Q q =>
  wpe_of (pe_var hN hv hd hcd) (ev_var h F G σ H W Q q)
theorem de_int {i : Int} {j} : DE X (.Constant (.int i) j pos) Γ .int i Γ := fun F G σ H W Q q => wpe_of pe_int (ev_c (K := X.K) (τ := .int) (c := i) (fun _ => rfl) F G σ H W Q q)
theorem de_bool {i : Bool} {j} : DE X (.Constant (.bool i) j pos) Γ .bool i Γ := fun F G σ H W Q q => wpe_of pe_bl (ev_c (K := X.K) (τ := .bool) (c := i) (fun _ => rfl) F G σ H W Q q)
theorem de_non {j} : DE X (.Constant .none j pos) Γ .non () Γ := fun F G σ H W Q q => wpe_of pe_non (ev_c (K := X.K) (τ := .non) (c := ()) (fun _ => rfl) F G σ H W Q q)
theorem de_str (l : List Nat) {x : Str} {j} (h : x = ⟨l.toArray⟩ := by decide +kernel) : DE X (.Constant (.str x) j pos) Γ .str l Γ := fun F G σ H W Q q => wpe_of pe_str (ev_c (K := X.K) (τ := .str) (c := l) (fun _ => by subst h; rfl) F G σ H W Q q)
theorem de_frz {t : Ty} {o : List t.den} (h : DO X e Γ (.lst t o) Γ1) : DE X e Γ (.lst t) o Γ1 := ev_frz h
theorem de_some {t : Ty} {x : t.den} (h : DE X e Γ t x Γ1) (hn : ∀ G v, Rep X.K t G v x → v ≠ .non) : DE X e Γ (.opt t) (some x) Γ1 := fun F G σ H W Q q =>
  h F G σ H W Q fun v G' H' s W' r => q v G' H' s W' ⟨hn G' v r, r⟩
theorem de_none (t : Ty) {j} : DE X (.Constant .none j pos) Γ (.opt t) none Γ := fun F G σ H W Q q => wpe_of pe_non (ev_c (K := X.K) (τ := .opt t) (c := none) (fun _ => rfl) F G σ H W Q q)
/-- a constant of the module that is an int, a text -/
theorem de_glob {n : Str} {v : V} {u : Value} {t : Ty} {x : t.den} (hm : X.mg n = some u) (r : RelV v u) (hx : ∀ G, Rep X.K t G v x) (hg : Gl X n := by rfl) (hd : (n == ("__debug__" : Str)) = false := by decide) : DE X (.Name n pos) Γ t x Γ := fun F G σ H W Q q =>
  wpe_of (pe_glob hg hm r hd) (ev_c (K := X.K) (τ := t) (c := x) hx F G σ H W Q q)

/-! ### ints -/
theorem de_add {i j : Int} (ha : DE X a Γ .int i Γ1) (hb : DE X b Γ1 .int j Γ2) : DE X (.BinOp a .Add b pos) Γ .int (i + j) Γ2 := fun F G σ H W Q q =>
  wpe_of (pe_op op_add pe_wp pe_wp) (ev_op (τ := .int) (c := i + j) ha hb (fun G H v w Q _ r1 r2 q => ⟨i, j, r1, r2, q _ rfl⟩) F G σ H W Q q)
theorem de_sub {i j : Int} (ha : DE X a Γ .int i Γ1) (hb : DE X b Γ1 .int j Γ2) : DE X (.BinOp a .Sub b pos) Γ .int (i - j) Γ2 := fun F G σ H W Q q =>
  wpe_of (pe_op op_sub pe_wp pe_wp) (ev_op (τ := .int) (c := i - j) ha hb (fun G H v w Q _ r1 r2 q => ⟨i, j, r1, r2, q _ rfl⟩) F G σ H W Q q)
theorem de_mul {i j : Int} (h : MulOk i j) (ha : DE X a Γ .int i Γ1) (hb : DE X b Γ1 .int j Γ2) : DE X (.BinOp a .Mult b pos) Γ .int (i * j) Γ2 := fun F G σ H W Q q =>
  wpe_of (pe_op op_mulW pe_wp pe_wp) (ev_op (τ := .int) (c := i * j) ha hb (fun G H v w Q _ r1 r2 q => ⟨i, j, r1, r2, h, q _ rfl⟩) F G σ H W Q q)
theorem de_fdiv {i j : Int} (h : DivOk j) (ha : DE X a Γ .int i Γ1) (hb : DE X b Γ1 .int j Γ2) : DE X (.BinOp a .FloorDiv b pos) Γ .int (i / j) Γ2 := fun F G σ H W Q q =>
  wpe_of (pe_op op_fdivW pe_wp pe_wp) (ev_op (τ := .int) (c := i / j) ha hb (fun G H v w Q _ r1 r2 q => ⟨i, j, r1, r2, h, q _ rfl⟩) F G σ H W Q q)
theorem de_mod {i j : Int} (h : 0 < j) (ha : DE X a Γ .int i Γ1) (hb : DE X b Γ1 .int j Γ2) : DE X (.BinOp a .Mod b pos) Γ .int (i % j) Γ2 := fun F G σ H W Q q =>
  wpe_of (pe_op op_mod pe_wp pe_wp) (ev_op (τ := .int) (c := i % j) ha hb (fun G H v w Q _ r1 r2 q => ⟨i, j, r1, r2, h, q _ rfl⟩) F G σ H W Q q)
theorem de_pow {i j : Int} (h : CPow i j) (ha : DE X a Γ .int i Γ1) (hb : DE X b Γ1 .int j Γ2) : DE X (.BinOp a .Pow b pos) Γ .int (i ^ j.toNat) Γ2 := fun F G σ H W Q q =>
  wpe_of (pe_op op_pow pe_wp pe_wp) (ev_op (τ := .int) (c := i ^ j.toNat) ha hb (fun G H v w Q _ r1 r2 q => ⟨i, j, r1, r2, h, q _ rfl⟩) F G σ H W Q q)
theorem de_neg {i : Int} (ha : DE X a Γ .int i Γ1) : DE X (.UnaryOp .USub a pos) Γ .int (-i) Γ1 := fun F G σ H W Q q =>
  wpe_of (pe_un un_neg pe_wp) (ev_un (τ := .int) (c := -i) ha (fun G H v Q _ r1 q => ⟨i, r1, q _ rfl⟩) F G σ H W Q q)

/-! ### texts -/
theorem de_cat {i j : List Nat} (h : Sz (i.length + j.length)) (ha : DE X a Γ .str i Γ1) (hb : DE X b Γ1 .str j Γ2) : DE X (.BinOp a .Add b pos) Γ .str (i ++ j) Γ2 := fun F G σ H W Q q =>
  wpe_of (pe_op op_add_str pe_wp pe_wp) (ev_op (τ := .str) (c := i ++ j) ha hb (fun G H v w Q _ r1 r2 q => ⟨⟨i.toArray⟩, ⟨j.toArray⟩, r1, r2, by rw [len_mk, len_mk]; exact h.le, q _ (by
    show V.str _ = V.str _
    congr 1
    exact ext_tl (tl_append _ _))⟩) F G σ H W Q q)

/-! ### comparisons -/
def WPC (X : Cx) (op : CmpOp) (a b : Expr) : TE := fun σ H Q => ∀ (pins : List (Addr × Obj)) (s : Shared), Inv X pins σ H s →
    wpAny (model X.prog X.w) X.A (eval a X.env) (fun v s₁ => wpAny (model X.prog X.w) X.A (eval b X.env) (fun u s₂ => wpAny (model X.prog X.w) X.A (compareOp op v u) (EP X pins σ Q) X.xe s₂) X.xe s₁) X.xe s
abbrev DC (X : Cx) (op : CmpOp) (a b : Expr) (Γ : List Slot) (c : Bool) (Γ' : List Slot) : Prop := Ev X.K (WPC X op a b) Γ .bool c Γ'
theorem pc_wp {op : CmpOp} : PC X op a b (WPC X op a b) := ⟨fun pins s σ H Q I h => h pins s I⟩
theorem wpc_of {op : CmpOp} {t : TE} {σ : L2.St} {H : Hp} {Q : VK} (p : PC X op a b t) (h : t σ H Q) : WPC X op a b σ H Q := fun pins s I => p.run pins s σ H Q I h
theorem pc_op {op : CmpOp} {r : R2} {ta tb : TE} (ho : OpR X (compareOp op) r) (ha : PE X a ta) (hb : PE X b tb) : PC X op a b (tOp r ta tb) := ⟨fun pins s σ H Q I h =>
  binT ha hb I h fun v u s2 x y H2 I2 rx ry q => ho pins s2 σ H2 x y v u Q I2 rx ry q⟩
theorem de_cmp {op : CmpOp} {c : Bool} (h : DC X op a b Γ c Γ1) (h1 : behindInMarks op b = false := by first | exact nobehind _ (by decide) (by decide) | rfl) : DE X (.Compare a [op] [b] pos) Γ .bool c Γ1 := fun F G σ H W Q q =>
  wpe_of (pe_cmp pc_wp h1) (h F G σ H W Q q)
theorem dt_cmp {op : CmpOp} {c : Bool} (h : DC X op a b Γ c Γ1) (h1 : behindInMarks op b = false := by first | exact nobehind _ (by decide) (by decide) | rfl) : DT X (.Compare a [op] [b] pos) Γ c Γ1 := fun F G σ H W Q q =>
  wpt_of (pt_cmp pc_wp h1) (h F G σ H W _ fun v G' H' s W' r => ⟨c, r, q G' H' s W'⟩)
section
variable {i j : Int}
theorem dc_lt (ha : DE X a Γ .int i Γ1) (hb : DE X b Γ1 .int j Γ2) : DC X .Lt a b Γ (decide (i < j)) Γ2 := fun F G σ H W Q q =>
  wpc_of (pc_op op_lt pe_wp pe_wp) (ev_op (τ := .bool) (c := decide (i < j)) ha hb (fun G H v w Q _ r1 r2 q => ⟨i, j, r1, r2, q _ rfl⟩) F G σ H W Q q)
theorem dc_le (ha : DE X a Γ .int i Γ1) (hb : DE X b Γ1 .int j Γ2) : DC X .LtE a b Γ (decide (i ≤ j)) Γ2 := fun F G σ H W Q q =>
  wpc_of (pc_op op_le pe_wp pe_wp) (ev_op (τ := .bool) (c := decide (i ≤ j)) ha hb (fun G H v w Q _ r1 r2 q => ⟨i, j, r1, r2, q _ rfl⟩) F G σ H W Q q)
theorem dc_gt (ha : DE X a Γ .int i Γ1) (hb : DE X b Γ1 .int j Γ2) : DC X .Gt a b Γ (decide (j < i)) Γ2 := fun F G σ H W Q q =>
  wpc_of (pc_op op_gt pe_wp pe_wp) (ev_op (τ := .bool) (c := decide (j < i)) ha hb (fun G H v w Q _ r1 r2 q => ⟨i, j, r1, r2, q _ rfl⟩) F G σ H W Q q)
theorem dc_ge (ha : DE X a Γ .int i Γ1) (hb : DE X b Γ1 .int j Γ2) : DC X .GtE a b Γ (decide (j ≤ i)) Γ2 := fun F G σ H W Q q =>
  wpc_of (pc_op op_ge pe_wp pe_wp) (ev_op (τ := .bool) (c := decide (j ≤ i)) ha hb (fun G H v w Q _ r1 r2 q => ⟨i, j, r1, r2, q _ rfl⟩) F G σ H W Q q)
end
/-- types whose values are told apart by themselves -/
def Ty.scal : Ty → Bool
  | .int => true | .bool => true | .str => true | _ => false
theorem scal_eq {K : PySem.W.Frag} {t : Ty} {x y : t.den} {G : Hp} {v w : V} [DecidableEq t.den] (hs : t.scal = true) (r1 : Rep K t G v x) (r2 : Rep K t G w y) : scal v w = true ∧ decide (v = w) = decide (x = y) := by
  cases t with
  | int => cases r1; cases r2; exact ⟨rfl, by simp⟩
  | bool => cases r1; cases r2; exact ⟨rfl, by simp⟩
  | str =>
    cases r1; cases r2
    refine ⟨rfl, ?_⟩
    by_cases e : x = y
    · subst e; simp
    · rw [decide_eq_false e, decide_eq_false fun z => e (vS_inj z)]
  | _ => cases hs
theorem dc_eqS {t : Ty} {x y : t.den} [DecidableEq t.den] (ha : DE X a Γ t x Γ1) (hb : DE X b Γ1 t y Γ2) (hs : t.scal = true := by rfl) : DC X .Eq a b Γ (decide (x = y)) Γ2 := fun F G σ H W Q q =>
  wpc_of (pc_op op_eq pe_wp pe_wp) (ev_op (τ := .bool) (c := decide (x = y)) ha hb (fun G H v w Q _ r1 r2 q => by
    obtain ⟨h1, h2⟩ := scal_eq hs r1 r2
    exact ⟨h1, q _ (by rw [h2]; rfl)⟩) F G σ H W Q q)
theorem dc_neS {t : Ty} {x y : t.den} [DecidableEq t.den] (ha : DE X a Γ t x Γ1) (hb : DE X b Γ1 t y Γ2) (hs : t.scal = true := by rfl) : DC X .NotEq a b Γ (!decide (x = y)) Γ2 := fun F G σ H W Q q =>
  wpc_of (pc_op op_ne pe_wp pe_wp) (ev_op (τ := .bool) (c := !decide (x = y)) ha hb (fun G H v w Q _ r1 r2 q => by
    obtain ⟨h1, h2⟩ := scal_eq hs r1 r2
    exact ⟨h1, q _ (by rw [h2]; rfl)⟩) F G σ H W Q q)
/-! ### tests -/
theorem dt_val {c : Bool} (h : DE X e Γ .bool c Γ1) (he : ∀ whole, isTrue e X.env whole = (do let v ← whole; standAt e.pos; holding [v] (truthy v)) := by intro _; rfl) : DT X e Γ c Γ1 := fun F G σ H W Q q =>
  wpt_of (pt_val pe_wp he) (h F G σ H W _ fun v G' H' s W' r => ⟨c, r, q G' H' s W'⟩)
theorem dw_and1 {c : Bool} (h : DT X a Γ c Γ1) : DW X (.BoolOp .And [a] pos) Γ c Γ1 := fun F G σ H W Q q => wpw_of (pw_and1 pt_wp) (h F G σ H W Q q)
theorem dw_or1 {c : Bool} (h : DT X a Γ c Γ1) : DW X (.BoolOp .Or [a] pos) Γ c Γ1 := fun F G σ H W Q q => wpw_of (pw_or1 pt_wp) (h F G σ H W Q q)
theorem dw_and {c d : Bool} {r : List Expr} (h : DT X a Γ c Γ1) (h2 : c = true → DW X (.BoolOp .And (b :: r) pos) Γ1 d Γ2) (h3 : c = false → Γ1 = Γ2) : DW X (.BoolOp .And (a :: b :: r) pos) Γ (c && d) Γ2 := fun F G σ H W Q q =>
  wpw_of (pw_and pt_wp pw_wp) (h F G σ H W _ fun G' H' s W' => by
    cases c with
    | true => exact h2 rfl F G' σ H' W' Q fun G2 H2 s2 W2 => q G2 H2 (s.trans s2) W2
    | false => have e := h3 rfl; subst e; exact q G' H' s W')
theorem dw_or {c d : Bool} {r : List Expr} (h : DT X a Γ c Γ1) (h2 : c = false → DW X (.BoolOp .Or (b :: r) pos) Γ1 d Γ2) (h3 : c = true → Γ1 = Γ2) : DW X (.BoolOp .Or (a :: b :: r) pos) Γ (c || d) Γ2 := fun F G σ H W Q q =>
  wpw_of (pw_or pt_wp pw_wp) (h F G σ H W _ fun G' H' s W' => by
    cases c with
    | false => exact h2 rfl F G' σ H' W' Q fun G2 H2 s2 W2 => q G2 H2 (s.trans s2) W2
    | true => have e := h3 rfl; subst e; exact q G' H' s W')
theorem dt_pw {c : Bool} (h : DW X e Γ c Γ1) : DT X e Γ c Γ1 := fun F G σ H W Q q => wpt_of pw_wp.pt (h F G σ H W Q q)
theorem dt_not {c : Bool} (h : DT X a Γ c Γ1) : DT X (.UnaryOp .Not a pos) Γ (!c) Γ1 := fun F G σ H W Q q => wpt_of (pt_not pt_wp) (h F G σ H W (fun c H' => Q (!c) H') q)
/-! ### .. as values -/
theorem de_one {op} {c : Bool} (h : DE X a Γ .bool c Γ1) : DE X (.BoolOp op [a] pos) Γ .bool c Γ1 := fun F G σ H W Q q => wpe_of (pe_one pe_wp) (h F G σ H W Q q)
theorem de_and {c d : Bool} {r : List Expr} (h : DE X a Γ .bool c Γ1) (h2 : c = true → DE X (.BoolOp .And (b :: r) pos) Γ1 .bool d Γ2) (h3 : c = false → Γ1 = Γ2) : DE X (.BoolOp .And (a :: b :: r) pos) Γ .bool (c && d) Γ2 := fun F G σ H W Q q =>
  wpe_of (pe_and pe_wp pe_wp) (h F G σ H W _ fun v G' H' s W' e => ⟨c, e, by
    cases c with
    | true => exact h2 rfl F G' σ H' W' Q fun v G2 H2 s2 W2 r => q v G2 H2 (s.trans s2) W2 r
    | false => have e := h3 rfl; subst e; exact q _ G' H' s W' rfl⟩)
theorem de_or {c d : Bool} {r : List Expr} (h : DE X a Γ .bool c Γ1) (h2 : c = false → DE X (.BoolOp .Or (b :: r) pos) Γ1 .bool d Γ2) (h3 : c = true → Γ1 = Γ2) : DE X (.BoolOp .Or (a :: b :: r) pos) Γ .bool (c || d) Γ2 := fun F G σ H W Q q =>
  wpe_of (pe_or pe_wp pe_wp) (h F G σ H W _ fun v G' H' s W' e => ⟨c, e, by
    cases c with
    | false => exact h2 rfl F G' σ H' W' Q fun v G2 H2 s2 W2 r => q v G2 H2 (s.trans s2) W2 r
    | true => have e := h3 rfl; subst e; exact q _ G' H' s W' rfl⟩)
theorem de_not {c : Bool} (h : DE X a Γ .bool c Γ1) : DE X (.UnaryOp .Not a pos) Γ .bool (!c) Γ1 := fun F G σ H W Q q => wpe_of (pe_not pe_wp) (h F G σ H W _ fun v G' H' s W' r => ⟨c, r, q _ G' H' s W' rfl⟩)
theorem de_if {t : Ty} {b : Expr} {cx : Expr} {c : Bool} {f : Bool → t.den} (hc : DT X cx Γ c Γ1) (h1 : c = true → DE X a Γ1 t (f true) Γ2) (h2 : c = false → DE X b Γ1 t (f false) Γ2) : DE X (.IfExp cx a b pos) Γ t (f c) Γ2 := fun F G σ H W Q q =>
  wpe_of (pe_ifExp pt_wp pe_wp pe_wp) (hc F G σ H W _ fun G' H' s W' => by
    cases c with
    | true => rw [if_pos rfl]; exact h1 rfl F G' σ H' W' Q fun v G2 H2 s2 W2 r => q v G2 H2 (s.trans s2) W2 r
    | false => rw [if_neg Bool.false_ne_true]; exact h2 rfl F G' σ H' W' Q fun v G2 H2 s2 W2 r => q v G2 H2 (s.trans s2) W2 r)
end
end Dn

set_option Elab.async false
set_option linter.all false
set_option maxRecDepth 100000
set_option maxHeartbeats 1000000
/-! Dn, part 3: lists, tuples, texts by place; built-ins. -/
namespace Dn
open PySem PySem.Spec PyProof.Rows L2 TL

/-- te gives a list, a tuple that may be read where it stands -/
def EvL (K : PySem.W.Frag) (te : TE) (Γ : List Slot) (t : Ty) (xs : List t.den) (Γ' : List Slot) : Prop :=
  ∀ (F : Fx) (G : Hp) (σ : L2.St) (H : Hp), Wd K F G σ H Γ → ∀ Q : VK, (∀ a vs G' H', Same G G' → Wd K F G' σ H' Γ' → SqL K H' a vs → RepL K t G' vs xs → Q (.ref a) H') → te σ H Q
def EvU (K : PySem.W.Frag) (te : TE) (Γ : List Slot) (t : Ty) (xs : List t.den) (Γ' : List Slot) : Prop :=
  ∀ (F : Fx) (G : Hp) (σ : L2.St) (H : Hp), Wd K F G σ H Γ → ∀ Q : VK, (∀ a vs G' H', Same G G' → Wd K F G' σ H' Γ' → SqT K H' a vs → RepL K t G' vs xs → Q (.ref a) H') → te σ H Q
/-- either -/
def EvQ (K : PySem.W.Frag) (te : TE) (Γ : List Slot) (t : Ty) (xs : List t.den) (Γ' : List Slot) : Prop :=
  ∀ (F : Fx) (G : Hp) (σ : L2.St) (H : Hp), Wd K F G σ H Γ → ∀ Q : VK, (∀ a vs G' H', Same G G' → Wd K F G' σ H' Γ' → (SqL K H' a vs ∨ SqT K H' a vs) → RepL K t G' vs xs → Q (.ref a) H') → te σ H Q
abbrev DL (X : Cx) (e : Expr) (Γ : List Slot) (t : Ty) (x : List t.den) (Γ' : List Slot) : Prop := EvL X.K (WPE X e) Γ t x Γ'
abbrev DU (X : Cx) (e : Expr) (Γ : List Slot) (t : Ty) (x : List t.den) (Γ' : List Slot) : Prop := EvU X.K (WPE X e) Γ t x Γ'
abbrev DQ (X : Cx) (e : Expr) (Γ : List Slot) (t : Ty) (x : List t.den) (Γ' : List Slot) : Prop := EvQ X.K (WPE X e) Γ t x Γ'
section
variable {X : Cx} {a b e : Expr} {es : List Expr} {pos apos : Pos} {Γ Γ1 Γ2 Γ3 : List Slot} {t : Ty} {xs : List t.den}
theorem dl_of (h : DE X e Γ (.lst t) xs Γ1) : DL X e Γ t xs Γ1 := fun F G σ H W Q q => h F G σ H W Q fun v G' H' s W' r => by
  obtain ⟨a, vs, rfl, h1, h2⟩ := r
  exact q a vs G' H' s W' (.inl (rd_mono W'.gh h1)) h2
theorem du_of (h : DE X e Γ (.tup t) xs Γ1) : DU X e Γ t xs Γ1 := fun F G σ H W Q q => h F G σ H W Q fun v G' H' s W' r => by
  obtain ⟨a, vs, rfl, h1, h2⟩ := r
  exact q a vs G' H' s W' (sqt_mono W'.gh h1.t) h2
theorem dl_O (h : DO X e Γ (.lst t xs) Γ1) : DL X e Γ t xs Γ1 := fun F G σ H W Q q => h F G σ H W Q fun p ho G' H' s W' hT ok => by
  obtain ⟨vs, rfl, r⟩ := ok
  exact q p vs G' H' s (W'.drop hT) (.inl (.inl W'.held.1)) r
theorem dl_V (i : Nat) {pin : Bool} {n : Str} (h : Γ[i]? = some (.ow pin (.lst t xs)) := by rfl) (hN : X.N[i]? = some n := by rfl) (hv : Vis X.env.scope n := by first | exact Or.inl rfl | exact Or.inr (Or.inl rfl) | exact Or.inr (Or.inr rfl))
    (hd : (n == ("__debug__" : Str)) = false := by decide) (hcd : (n == ("__classdict__" : Str)) = false := by decide) : DL X (.Name n pos) Γ t xs Γ := fun F G σ H W Q q => by
  obtain ⟨p, ho, h1, h2, h3, h4, h5, h6⟩ := W.sl i _ h
  obtain ⟨vs, rfl, r⟩ := h5
  exact wpe_of (pe_var hN hv hd hcd) ⟨.ref p, h1, q p vs G H (Same.refl G) W (.inl (.inl h4)) r⟩
theorem dq_L (h : DL X e Γ t xs Γ1) : DQ X e Γ t xs Γ1 := fun F G σ H W Q q => h F G σ H W Q fun a vs G' H' s W' h1 h2 => q a vs G' H' s W' (.inl h1) h2
theorem dq_U (h : DU X e Γ t xs Γ1) : DQ X e Γ t xs Γ1 := fun F G σ H W Q q => h F G σ H W Q fun a vs G' H' s W' h1 h2 => q a vs G' H' s W' (.inr h1) h2
/-- an owned name, from now on frozen -/
theorem Wd.freezeSlot {K : PySem.W.Frag} {F : Fx} {G : Hp} {σ : L2.St} {H : Hp} {i : Nat} (W : Wd K F G σ H Γ) (h : Γ[i]? = some (.ow false (.lst t xs))) :
    ∃ (p : Addr) (vs : List V), σ[i]? = some (some (.ref p)) ∧ G p = none ∧ H p = some (.lst vs) ∧ RepL K t G vs xs ∧ Wd K F (upd G p (.lst vs)) σ H (Γ.set i (.fr (.lst t) xs)) := by
  obtain ⟨p, ho, h1, h2, h3, h4, h5, h6⟩ := W.sl i _ h
  obtain ⟨vs, rfl, r⟩ := h5
  have sm : Same G (upd G p (.lst vs)) := same_upd h2
  have il : i < Γ.length := (List.getElem?_eq_some_iff.mp h).1
  refine ⟨p, vs, h1, h2, h4, r, by rw [List.length_set]; exact W.len, fun b o e => ?_, W.th, fun b o e => ?_, fun j s e => ?_, fun j k s s' q ne e1 o1 e2 o2 s1 s2 => ?_, W.ns.go (fun j t x e => ⟨(set_ns rfl e).2, rfl⟩) sm fun a o q1 q2 q3 q4 => ⟨q1, by rw [upd_ne (fun z => by subst z; exact q4 i _ h rfl h1)]; exact q2, q3, fun j s e o => q4 j s (set_ow rfl e o).2 o⟩⟩
  · by_cases hb : b = p
    · subst hb; rw [upd_same] at e; rw [h4]; exact e
    · rw [upd_ne hb] at e; exact W.gh b o e
  · have ne : b ≠ p := fun z => by subst z; rw [h3] at e; cases e
    intro hn; rw [upd_ne ne]; exact W.tg b o e hn
  · by_cases hj : i = j
    · subst hj
      rw [List.getElem?_set_self il] at e
      cases e
      exact ⟨.ref p, h1, p, vs, rfl, .inl upd_same, repL_mono sm r⟩
    · rw [List.getElem?_set_ne hj] at e
      have q := W.sl j s e
      cases s with
      | un => exact q
      | fr t x => obtain ⟨v, e1, e2⟩ := q; exact ⟨v, e1, rep_mono sm t v x e2⟩
      | mb t x => exact fun y hy => by obtain ⟨v, e1, e2⟩ := q y hy; exact ⟨v, e1, rep_mono sm t v y e2⟩
      | ow pin o =>
        obtain ⟨a, ho', e1, e2, e3, e4, e5, e6⟩ := q
        have ne : a ≠ p := fun z => by subst z; exact W.dj i j _ _ a hj h rfl e rfl h1 e1
        exact ⟨a, ho', e1, by rw [upd_ne ne]; exact e2, e3, e4, own_mono sm e5, e6⟩
      | ns t x => trivial
  · have hj : i ≠ j := fun z => by subst z; rw [List.getElem?_set_self il] at e1; cases e1; cases o1
    have hk : i ≠ k := fun z => by subst z; rw [List.getElem?_set_self il] at e2; cases e2; cases o2
    rw [List.getElem?_set_ne hj] at e1
    rw [List.getElem?_set_ne hk] at e2
    exact W.dj j k s s' q ne e1 o1 e2 o2 s1 s2
theorem de_frzV (i : Nat) {n : Str} (h : Γ[i]? = some (.ow false (.lst t xs)) := by rfl) (hN : X.N[i]? = some n := by rfl) (hv : Vis X.env.scope n := by first | exact Or.inl rfl | exact Or.inr (Or.inl rfl) | exact Or.inr (Or.inr rfl))
    (hd : (n == ("__debug__" : Str)) = false := by decide) (hcd : (n == ("__classdict__" : Str)) = false := by decide) : DE X (.Name n pos) Γ (.lst t) xs (Γ.set i (.fr (.lst t) xs)) := fun F G σ H W Q q => by
  obtain ⟨p, vs, h1, h2, h3, r, W'⟩ := W.freezeSlot h
  exact wpe_of (pe_var hN hv hd hcd) ⟨.ref p, h1, q (.ref p) _ H (same_upd h2) W' ⟨p, vs, rfl, .inl upd_same, repL_mono (same_upd h2) r⟩⟩

/-! ### items -/
/-- the place that an index means -/
def ix (n : Nat) (i : Int) : Nat := if 0 ≤ i then i.toNat else (i + n).toNat
def IxOk (n : Nat) (i : Int) : Prop := -(n : Int) ≤ i ∧ i < n
theorem ixN_ok {n : Nat} {i : Int} (h : IxOk n i) : ixN n i = some (ix n i) ∧ ix n i < n := by
  obtain ⟨h1, h2⟩ := h
  unfold ixN ix
  by_cases h0 : 0 ≤ i
  · rw [if_pos h0, if_pos h0, if_pos h2]
    exact ⟨rfl, by omega⟩
  · rw [if_neg h0, if_neg h0, if_pos h1]
    exact ⟨rfl, by omega⟩
/-- xs[i] -/
def get {α : Type} (d : α) (xs : List α) (i : Int) : α := (xs[ix xs.length i]?).getD d
theorem at_ok {K : PySem.W.Frag} {G : Hp} {vs : List V} {i : Int} (d : t.den) (r : RepL K t G vs xs) (h : IxOk xs.length i) : ∃ v, atI vs i = some v ∧ Rep K t G v (get d xs i) := by
  obtain ⟨h1, h2⟩ := ixN_ok h
  have el := pair_len r
  obtain ⟨v, e1, e2⟩ := pair_get r (List.getElem?_eq_getElem h2)
  refine ⟨v, ?_, ?_⟩
  · unfold atI
    rw [el, h1]
    exact e1
  · unfold get
    rw [List.getElem?_eq_getElem h2]
    exact e2
theorem plainIx {b : Expr} (h : ∀ o i, subscripted b false o i = operate [o, i] (getItem o i) := by intro _ _; rfl) : PlainIx b := h
theorem de_ixL (d : t.den) {i : Int} (hi : IxOk xs.length i) (ha : DE X a Γ (.lst t) xs Γ1) (hb : DE X b Γ1 .int i Γ2) (hs : PlainIx b := by exact fun _ _ => rfl) : DE X (.Subscript a b pos) Γ t (get d xs i) Γ2 := fun F G σ H W Q q =>
  wpe_of (pe_ix ix_list pe_wp pe_wp hs) (ev_op (τ := t) (c := get d xs i) ha hb (fun G H v w Q sg r1 r2 q => by
    obtain ⟨p, vs, rfl, h1, h2⟩ := r1
    obtain ⟨v, e1, e2⟩ := at_ok d h2 hi
    exact ⟨p, vs, i, v, rfl, r2, .inl (rd_mono sg h1), e1, q v e2⟩) F G σ H W Q q)
theorem de_ixU (d : t.den) {i : Int} (hi : IxOk xs.length i) (ha : DE X a Γ (.tup t) xs Γ1) (hb : DE X b Γ1 .int i Γ2) (hs : PlainIx b := by exact fun _ _ => rfl) : DE X (.Subscript a b pos) Γ t (get d xs i) Γ2 := fun F G σ H W Q q =>
  wpe_of (pe_ix ix_tup pe_wp pe_wp hs) (ev_op (τ := t) (c := get d xs i) ha hb (fun G H v w Q sg r1 r2 q => by
    obtain ⟨p, vs, rfl, h1, h2⟩ := r1
    obtain ⟨v, e1, e2⟩ := at_ok d h2 hi
    exact ⟨p, vs, i, v, rfl, r2, sqt_mono sg h1.t, e1, q v e2⟩) F G σ H W Q q)
/-- an owned name by a place -/
theorem de_ixV (k : Nat) (d : t.den) {n : Str} {apos : Pos} {pin : Bool} {i : Int} (hi : IxOk xs.length i) (hb : DE X b Γ .int i Γ2) (h : Γ2[k]? = some (.ow pin (.lst t xs)) := by rfl) (hN : X.N[k]? = some n := by rfl) (hv : Vis X.env.scope n := by first | exact Or.inl rfl | exact Or.inr (Or.inl rfl) | exact Or.inr (Or.inr rfl))
    (h0 : (Γ[k]?.map Slot.isLst) = some true := by rfl) (hd : (n == ("__debug__" : Str)) = false := by decide) (hcd : (n == ("__classdict__" : Str)) = false := by decide) (hs : PlainIx b := by exact fun _ _ => rfl) : DE X (.Subscript (.Name n apos) b pos) Γ t (get d xs i) Γ2 := fun F G σ H W Q q => by
  have ⟨p, hp⟩ : ∃ p, σ[k]? = some (some (.ref p)) := by
    cases e : Γ[k]? with
    | none => rw [e] at h0; cases h0
    | some s =>
      cases s with
      | ow pin o => obtain ⟨p, _, h1, _⟩ := W.sl k _ e; exact ⟨p, h1⟩
      | _ => rw [e] at h0; cases h0
  refine wpe_of (pe_ix ix_list (pe_var hN hv hd hcd) pe_wp hs) ⟨.ref p, hp, hb F G σ H W _ fun w G2 H2 s2 W2 r2 => ?_⟩
  obtain ⟨p', ho, h1, h2, h3, h4, h5, h6⟩ := W2.sl k _ h
  rw [hp] at h1; cases h1
  obtain ⟨vs, rfl, r⟩ := h5
  obtain ⟨v, e1, e2⟩ := at_ok d r hi
  exact ⟨p, vs, i, v, rfl, r2, .inl (.inl h4), e1, q v G2 H2 s2 W2 e2⟩
/-- s[i] -/
theorem de_ixS {x : List Nat} {i : Int} (hi : IxOk x.length i) (hz : Sz x.length) (ha : DE X a Γ .str x Γ1) (hb : DE X b Γ1 .int i Γ2) (hs : PlainIx b := by exact fun _ _ => rfl) : DE X (.Subscript a b pos) Γ .str [get 0 x i] Γ2 := fun F G σ H W Q q =>
  wpe_of (pe_ix ix_str pe_wp pe_wp hs) (ev_op (τ := .str) (c := [get 0 x i]) ha hb (fun G H v w Q sg r1 r2 q => by
    obtain ⟨h1, h2⟩ := ixN_ok hi
    refine ⟨⟨x.toArray⟩, i, get 0 x i, r1, r2, by rw [len_mk]; exact hz.le, ?_, q _ rfl⟩
    show atI x i = _
    unfold atI get
    rw [h1]
    show x[ix x.length i]? = _
    rw [List.getElem?_eq_getElem h2]
    rfl) F G σ H W Q q)
/-- t[0], t[1] of a pair, a triple .. -/
theorem pair_at {K : PySem.W.Frag} {G : Hp} {vs : List V} {v : V} {k : Nat} (h : vs[k]? = some v) : atI vs (k : Int) = some v := atI_nat h
section
variable {A B C E' E2 : Ty}
theorem de_20 {x : A.den × B.den} {j} {p2 : Pos} (ha : DE X a Γ (.p2 A B) x Γ1) : DE X (.Subscript a (.Constant (.int 0) j p2) pos) Γ A x.1 Γ1 := fun F G σ H W Q q =>
  wpe_of (pe_ix ix_tup pe_wp pe_int (fun _ _ => rfl)) (ev_op (τ := A) (c := x.1) ha (ev_c (K := X.K) (τ := .int) (c := (0 : Int)) (fun _ => rfl)) (fun G H v w Q sg r1 r2 q => by
    obtain ⟨p, v1, v2, rfl, h1, h2, h3⟩ := r1
    exact ⟨p, _, 0, v1, rfl, r2, sqt_mono sg (tT h1), rfl, q _ h2⟩) F G σ H W Q q)
theorem de_21 {x : A.den × B.den} {j} {p2 : Pos} (ha : DE X a Γ (.p2 A B) x Γ1) : DE X (.Subscript a (.Constant (.int 1) j p2) pos) Γ B x.2 Γ1 := fun F G σ H W Q q =>
  wpe_of (pe_ix ix_tup pe_wp pe_int (fun _ _ => rfl)) (ev_op (τ := B) (c := x.2) ha (ev_c (K := X.K) (τ := .int) (c := (1 : Int)) (fun _ => rfl)) (fun G H v w Q sg r1 r2 q => by
    obtain ⟨p, v1, v2, rfl, h1, h2, h3⟩ := r1
    exact ⟨p, _, 1, v2, rfl, r2, sqt_mono sg (tT h1), rfl, q _ h3⟩) F G σ H W Q q)
theorem de_30 {x : A.den × B.den × C.den} {j} {p2 : Pos} (ha : DE X a Γ (.p3 A B C) x Γ1) : DE X (.Subscript a (.Constant (.int 0) j p2) pos) Γ A x.1 Γ1 := fun F G σ H W Q q =>
  wpe_of (pe_ix ix_tup pe_wp pe_int (fun _ _ => rfl)) (ev_op (τ := A) (c := x.1) ha (ev_c (K := X.K) (τ := .int) (c := (0 : Int)) (fun _ => rfl)) (fun G H v w Q sg r1 r2 q => by
    obtain ⟨p, v1, v2, v3, rfl, h1, h2, h3, h4⟩ := r1
    exact ⟨p, _, 0, v1, rfl, r2, sqt_mono sg (tT h1), rfl, q _ h2⟩) F G σ H W Q q)
theorem de_31 {x : A.den × B.den × C.den} {j} {p2 : Pos} (ha : DE X a Γ (.p3 A B C) x Γ1) : DE X (.Subscript a (.Constant (.int 1) j p2) pos) Γ B x.2.1 Γ1 := fun F G σ H W Q q =>
  wpe_of (pe_ix ix_tup pe_wp pe_int (fun _ _ => rfl)) (ev_op (τ := B) (c := x.2.1) ha (ev_c (K := X.K) (τ := .int) (c := (1 : Int)) (fun _ => rfl)) (fun G H v w Q sg r1 r2 q => by
    obtain ⟨p, v1, v2, v3, rfl, h1, h2, h3, h4⟩ := r1
    exact ⟨p, _, 1, v2, rfl, r2, sqt_mono sg (tT h1), rfl, q _ h3⟩) F G σ H W Q q)
theorem de_32 {x : A.den × B.den × C.den} {j} {p2 : Pos} (ha : DE X a Γ (.p3 A B C) x Γ1) : DE X (.Subscript a (.Constant (.int 2) j p2) pos) Γ C x.2.2 Γ1 := fun F G σ H W Q q =>
  wpe_of (pe_ix ix_tup pe_wp pe_int (fun _ _ => rfl)) (ev_op (τ := C) (c := x.2.2) ha (ev_c (K := X.K) (τ := .int) (c := (2 : Int)) (fun _ => rfl)) (fun G H v w Q sg r1 r2 q => by
    obtain ⟨p, v1, v2, v3, rfl, h1, h2, h3, h4⟩ := r1
    exact ⟨p, _, 2, v3, rfl, r2, sqt_mono sg (tT h1), rfl, q _ h4⟩) F G σ H W Q q)
end

/-! ### argument lists -/
/-- an argument: a frozen thing; the owned name in slot i; a new thing of its own -/
inductive Arg where
  | fr (t : Ty) (x : t.den)
  | bx (i : Nat)
  | tmp (o : Own)
def ArgOk (K : PySem.W.Frag) (F : Fx) (G H : Hp) (σ : L2.St) (Γ : List Slot) (v : V) : Arg → Prop
  | .fr t x => Rep K t G v x
  | .bx i => σ[i]? = some (some v)
  | .tmp o => ∃ p ho, v = .ref p ∧ F.T p = none ∧ OwnOk K G ho o ∧ Wd K { F with T := upd F.T p ho } G σ H Γ
def noTmp : Arg → Bool
  | .tmp _ => false
  | _ => true
def EvA (K : PySem.W.Frag) (ta : TA) (Γ : List Slot) (as : List Arg) (Γ' : List Slot) : Prop :=
  ∀ (F : Fx) (G : Hp) (σ : L2.St) (H : Hp), Wd K F G σ H Γ → ∀ Q : List V → Hp → Prop, (∀ vs G' H', Same G G' → Wd K F G' σ H' Γ' → Paired (fun v a => ArgOk K F G' H' σ Γ' v a) vs as → Q vs H') → ta σ H Q
abbrev DA (X : Cx) (es : List Expr) (Γ : List Slot) (as : List Arg) (Γ' : List Slot) : Prop := EvA X.K (WPA X es) Γ as Γ'
theorem da_nil : DA X [] Γ [] Γ := fun F G σ H W Q q => wpa_of pa_nil (q [] G H (Same.refl G) W .nil)
theorem da_cons {as : List Arg} {x : t.den} (ha : DE X e Γ t x Γ1) (hr : DA X es Γ1 as Γ2) (hs : starEach (e :: es) X.env = (false, eval e X.env) :: starEach es X.env := by rfl) : DA X (e :: es) Γ (.fr t x :: as) Γ2 := fun F G σ H W Q q =>
  wpa_of (pa_cons pe_wp pa_wp hs) (ha F G σ H W _ fun v G1 H1 s1 W1 r1 => hr F G1 σ H1 W1 _ fun vs G2 H2 s2 W2 r2 => q (v :: vs) G2 H2 (s1.trans s2) W2 (.cons (rep_mono s2 t v x r1) r2))
theorem da_box (i : Nat) {as : List Arg} {n : Str} {pos : Pos} (hr : DA X es Γ as Γ2) (h0 : (Γ[i]?.map Slot.isLst) = some true := by rfl) (hN : X.N[i]? = some n := by rfl) (hv : Vis X.env.scope n := by first | exact Or.inl rfl | exact Or.inr (Or.inl rfl) | exact Or.inr (Or.inr rfl))
    (hd : (n == ("__debug__" : Str)) = false := by decide) (hcd : (n == ("__classdict__" : Str)) = false := by decide) (hs : starEach (.Name n pos :: es) X.env = (false, eval (.Name n pos) X.env) :: starEach es X.env := by rfl) : DA X (.Name n pos :: es) Γ (.bx i :: as) Γ2 := fun F G σ H W Q q => by
  have ⟨p, hp⟩ : ∃ p, σ[i]? = some (some (.ref p)) := by
    cases e : Γ[i]? with
    | none => rw [e] at h0; cases h0
    | some s =>
      cases s with
      | ow pin o => obtain ⟨p, _, h1, _⟩ := W.sl i _ e; exact ⟨p, h1⟩
      | _ => rw [e] at h0; cases h0
  exact wpa_of (pa_cons (pe_var hN hv hd hcd) pa_wp hs) ⟨.ref p, hp, hr F G σ H W _ fun vs G2 H2 s2 W2 r2 => q (.ref p :: vs) G2 H2 s2 W2 (.cons hp r2)⟩
def Arg.isFr : Arg → Bool
  | .fr _ _ => true
  | _ => false
theorem argOk_F {K : PySem.W.Frag} {F F' : Fx} {G H : Hp} {σ : L2.St} {Γ Γ' : List Slot} {vs : List V} {as : List Arg} (h : Paired (fun v a => ArgOk K F G H σ Γ v a) vs as) (hf : as.all Arg.isFr = true) :
    Paired (fun v a => ArgOk K F' G H σ Γ' v a) vs as := by
  induction h with
  | nil => exact .nil
  | @cons v a _ _ r _ ih =>
    rw [List.all_cons, Bool.and_eq_true] at hf
    refine .cons ?_ (ih hf.2)
    cases a with
    | fr t x => exact r
    | _ => cases hf.1
theorem da_tmp {as : List Arg} {o : Own} (ha : DO X e Γ o Γ1) (hr : DA X es Γ1 as Γ2) (hf : as.all Arg.isFr = true := by rfl) (hs : starEach (e :: es) X.env = (false, eval e X.env) :: starEach es X.env := by rfl) : DA X (e :: es) Γ (.tmp o :: as) Γ2 := fun F G σ H W Q q =>
  wpa_of (pa_cons pe_wp pa_wp hs) (ha F G σ H W _ fun p ho G1 H1 s1 W1 hT ok => hr _ G1 σ H1 W1 _ fun vs G2 H2 s2 W2 r2 => q (.ref p :: vs) G2 H2 (s1.trans s2) (W2.drop hT) (.cons ⟨p, ho, rfl, hT, own_mono s2 ok, W2⟩ (argOk_F r2 hf)))
end
end Dn

set_option Elab.async false
set_option linter.all false
set_option maxRecDepth 100000
set_option maxHeartbeats 1000000
/-! Dn, part 4: calls of defs, statements, ends, loops. -/
namespace Dn
open PySem PySem.Spec PyProof.Rows L2 TL

/-! ### what a def promises -/
inductive Ret where
  | fr (t : Ty) (x : t.den)
  | ow (o : Own)
def RetOk (K : PySem.W.Frag) (G H0 H : Hp) (v : V) : Ret → Prop
  | .fr t x => Rep K t G v x
  | .ow o => ∃ p ho, v = .ref p ∧ H0 p = none ∧ G p = none ∧ H p = some ho ∧ OwnOk K G ho o
def ArgF (K : PySem.W.Frag) (G : Hp) (v : V) : Arg → Prop
  | .fr t x => Rep K t G v x
  | _ => False
/-- no box -/
def Pm0 (K : PySem.W.Frag) (as : List Arg) (r : Ret) : Sp := fun vs H Q _ => ∃ G, Same G H ∧ Paired (ArgF K G) vs as ∧
  ∀ v G' H', Same G G' → Same G' H' → Same H H' → (∀ c o, H c = some o → NT o → G c = none → G' c = none) → RetOk K G' H H' v r → Q v H'
/-- a box ahead -/
def Pm1 (K : PySem.W.Frag) (y y' : Own) (as : List Arg) (r : Ret) : Sp := fun vs H Q _ => ∃ G b ho vs', vs = .ref b :: vs' ∧ Same G H ∧ G b = none ∧ H b = some ho ∧ OwnOk K G ho y ∧ Paired (ArgF K G) vs' as ∧
  ∀ v G' H' ho', Same G G' → Same G' H' → (∀ c o, c ≠ b → H c = some o → H' c = some o) → H' b = some ho' → OwnOk K G' ho' y' → (∀ c o, H c = some o → NT o → G c = none → G' c = none) → RetOk K G' H H' v r → Q v H'
section
variable {K : PySem.W.Frag} {F : Fx} {G G' H H' : Hp} {σ : L2.St} {Γ : List Slot} {vs : List V} {as : List Arg}
theorem argF_of {b : List Slot} (h : Paired (fun v a => ArgOk K F G H σ b v a) vs as) (hf : as.all Arg.isFr = true) : Paired (ArgF K G) vs as := by
  induction h with
  | nil => exact .nil
  | @cons v a _ _ r _ ih =>
    rw [List.all_cons, Bool.and_eq_true] at hf
    refine .cons ?_ (ih hf.2)
    cases a with
    | fr t x => exact r
    | _ => cases hf.1
/-- behind a call that has nothing of ours to change -/
theorem Wd.call (W : Wd K F G σ H Γ) (s1 : Same G G') (s2 : Same G' H') (s3 : Same H H') (fr : ∀ c o, H c = some o → NT o → G c = none → G' c = none) : Wd K F G' σ H' Γ where
  len := W.len
  gh := s2
  th := W.th.trans s3
  tg := fun b o e hn => fr b o (W.th b o e) hn (W.tg b o e hn)
  sl := fun i s e => by
    have q := W.sl i s e
    cases s with
    | un => exact q
    | fr t x => obtain ⟨v, h1, h2⟩ := q; exact ⟨v, h1, rep_mono s1 t v x h2⟩
    | mb t x => exact fun y hy => by obtain ⟨v, h1, h2⟩ := q y hy; exact ⟨v, h1, rep_mono s1 t v y h2⟩
    | ow pin o =>
      obtain ⟨a, ho', h1, h2, h3, h4, h5, h6⟩ := q
      exact ⟨a, ho', h1, fr a _ h4 (own_nt h5) h2, h3, s3 a _ h4, own_mono s1 h5, h6⟩
    | ns t x => trivial
  dj := W.dj
  ns := W.ns.goN (fun _ _ _ e => ⟨e, rfl⟩) s1 fun a o h1 hn h2 h3 h4 => ⟨s3 a o h1, fr a o h1 hn h2, h3, h4⟩
/-- .. but the owned thing in slot i -/
theorem Wd.callB {i : Nat} {pin : Bool} {y y' : Own} {b : Addr} {ho' : HO} (W : Wd K F G σ H Γ) (hi : Γ[i]? = some (.ow pin y)) (hb : σ[i]? = some (some (.ref b))) (s1 : Same G G') (s2 : Same G' H') (s3 : ∀ c o, c ≠ b → H c = some o → H' c = some o)
    (fr : ∀ c o, H c = some o → NT o → G c = none → G' c = none) (h' : H' b = some ho') (ok : OwnOk K G' ho' y') : Wd K F G' σ H' (Γ.set i (.ow pin y')) := by
  obtain ⟨b', ho, e1, e2, e3, e4, e5, e6⟩ := W.sl i _ hi
  rw [hb] at e1; cases e1
  have il : i < Γ.length := (List.getElem?_eq_some_iff.mp hi).1
  have isow : ∀ (j : Nat) (s : Slot), (Γ.set i (.ow pin y'))[j]? = some s → s.isOw = true → ∃ s', Γ[j]? = some s' ∧ s'.isOw = true := fun j s e o => by
    by_cases hj : i = j
    · subst hj; exact ⟨_, hi, rfl⟩
    · rw [List.getElem?_set_ne hj] at e; exact ⟨s, e, o⟩
  refine ⟨by rw [List.length_set]; exact W.len, s2, fun c o e => s3 c o (fun z => by subst z; rw [e3] at e; cases e) (W.th c o e), fun c o e hn => fr c o (W.th c o e) hn (W.tg c o e hn), fun j s e => ?_, fun j k s s' q ne a1 o1 a2 o2 => ?_, W.ns.goN (fun j t x e => ⟨(set_ns rfl e).2, rfl⟩) s1 fun a o q1 hn q2 q3 q4 => ⟨s3 a o (fun z => by subst z; exact q4 i _ hi rfl hb) q1, fr a o q1 hn q2, q3, fun j s e o => by
    obtain ⟨s', e', o'⟩ := isow j s e o
    exact q4 j s' e' o'⟩⟩
  · by_cases hj : i = j
    · subst hj
      rw [List.getElem?_set_self il] at e
      cases e
      exact ⟨b, ho', hb, fr b _ e4 (own_nt e5) e2, e3, h', ok, e6⟩
    · rw [List.getElem?_set_ne hj] at e
      have q := W.sl j s e
      cases s with
      | un => exact q
      | fr t x => obtain ⟨v, h1, h2⟩ := q; exact ⟨v, h1, rep_mono s1 t v x h2⟩
      | mb t x => exact fun y hy => by obtain ⟨v, h1, h2⟩ := q y hy; exact ⟨v, h1, rep_mono s1 t v y h2⟩
      | ow pin' o =>
        obtain ⟨a, ho2, h1, h2, h3, h4, h5, h6⟩ := q
        have ne : a ≠ b := fun z => by subst z; exact W.dj i j _ _ a hj hi rfl e rfl hb h1
        exact ⟨a, ho2, h1, fr a _ h4 (own_nt h5) h2, h3, s3 a _ ne h4, own_mono s1 h5, h6⟩
      | ns t x => trivial
  · obtain ⟨t1, b1, c1⟩ := isow j s a1 o1
    obtain ⟨t2, b2, c2⟩ := isow k s' a2 o2
    exact W.dj j k t1 t2 q ne b1 c1 b2 c2
end
/-! ### room, and nothing under way: what a def's promise is given here -/
structure RoomG (k : Nat) (A : Around) : Prop where
  r : L2.Room k A
  g : A.guards = some []
theorem RoomG.mono {j k : Nat} {A : Around} (h : RoomG k A) (l : j ≤ k) : RoomG j A := ⟨h.r.mono l, h.g⟩
theorem RoomG.units {k : Nat} {A : Around} (h : RoomG k A) : A.units + 64 < cLine := by have := h.r.un; omega
/-- a def's promise, where no repr is under way -/
structure FnG (P : Program) (w : World) (K : PySem.W.Frag) (mg : Str → Option Value) (base : Heap) (k : Nat) (f : Addr) (fd : FuncData) (ps : List Str) (sp : Sp) : Prop where
  len : ∀ vs H Q E, sp vs H Q E → vs.length = ps.length
  run : ∀ (A : Around) (outer : List Env) (s : Shared) (H : Hp) (args : Args) (us : List Value) (vs : List V) (Q : VK) (E : XK), RoomG k A → Env0 P w K mg base A outer s H → BindsTo s fd args (ps.zip us) → Vals vs us → sp vs H Q E →
    codeAny (model P w) A (.call (.ref f) args) (CR CX0 outer P w H s Q E) s
section
variable {P : Program} {w : World} {K : PySem.W.Frag} {mg : Str → Option Value} {base : Heap}
/-- by its body -/
theorem fun_okG {x qual : Str} {st : Stmt} {f : Addr} {fd : FuncData} {N ps : List Str} {k : Nat} {sp : Sp} (F : Fun K x qual st f fd) (S : FnScope N ps (defScope st)) (len : ∀ vs H Q E, sp vs H Q E → vs.length = ps.length)
    (hbody : ∀ (cdv : Value) (A : Around) (outer : List Env) (s : Shared) (H : Hp) (vs : List V) (Q : VK) (E : XK), RoomG k (A.deeper (envOfC qual (defScope st) s.heap.objs.size f cdv)) → sp vs H Q E →
      ∃ t, PSs (cxOf CX0 P w K mg base N qual (defScope st) f cdv A outer s H E).nox (defBody st) t ∧ t { nx := fun _ H' => Q .non H', rt := Q } (start N vs) H) : FnG P w K mg base (k + 1) f fd ps sp := by
  obtain ⟨_, _, _, _, _, _, cdv, _, _, rfl, lk, hcd⟩ := F.ex
  refine ⟨len, fun A outer s H args us vs Q E room e0 binds rel hsp => ?_⟩
  have vl := len _ _ _ _ hsp
  have keep : ∀ b o, base.get? b = some o → s.heap.get? b = some o := fun b o e => (e0.bs b o e).1
  have nolim : s.heap.NoLimit := e0.mod.nolimit.keeps keep
  have inK := e0.mod.kin.keeps keep
  refine codeAny_call_function room.r.depth (inK _ _ lk) rfl S.co S.gen rfl (PySem.W.codeRec_of inK hcd) (binds _ _ _ _ ?_)
  refine wpAny_newFunctionEnv_cells S.kind (fun p hp => ?_) fun env he s1 made => ?_
  · cases S.par p.1 (List.of_mem_zip (show (p.1, p.2) ∈ ps.zip us from hp)).1 with
    | inl q => exact .inl q
    | inr q => exact .inr ⟨q, PySem.W.cellsFrom_some _ _ _ (.inl q)⟩
  subst he
  refine ⟨nolim.keeps made.toInCall.keep, codeAny_func ?_⟩
  obtain ⟨t, ht, q⟩ := hbody cdv A outer s H vs Q E ⟨room.r.deeper _, room.g⟩ hsp
  refine wpAny_mono (ht.nox.run [] s1 (start N vs) H _ (inv_start S room.r.hd e0 vl rel made) q) (fun fl s' out => ?_) fun _ _ out => out
  cases fl with
  | ret u => obtain ⟨v, _, H', J, rv, q'⟩ := out; exact ⟨v, H', J.os, J.bare, J.base, J.hok, rv, q'⟩
  | next => obtain ⟨_, H', J, q'⟩ := out; exact ⟨V.non, H', J.os, J.bare, J.base, J.hok, rfl, q'⟩
  | brk => obtain ⟨_, _, _, q'⟩ := out; exact False.elim q'
  | cont => obtain ⟨_, _, _, q'⟩ := out; exact False.elim q'
end
section
variable {X : Cx} {f : Addr} {fd : FuncData} {ps : List Str} {sp : Sp} {k : Nat} {n : Str} {p pos : Pos} {e : Expr} {es : List Expr} {ta : TA}
/-- f(e, ..), every parameter given -/
theorem pe_callG (F : FnG X.prog X.w X.K X.mg X.base k f fd ps sp) (hr : RoomG k X.A) (hg : Gl X n) (hm : X.mg n = some (.ref f)) (hk : PySem.W.keepIn X.K (.ref f) = true) (hb : Binds X.K fd ps [])
    (ha : PA X (e :: es) ta) (hdb : (n == ("__debug__" : Str)) = false := by decide) (he : starEach (e :: es) X.env = (false, eval e X.env) :: starEach es X.env := by rfl) (hpl : (backTo pos (starEach es X.env)).any (·.1) = false := by rfl) :
    PE X (.Call (.Name n p) (e :: es) [] pos) (tCall sp [] E0 ta) := by
  constructor
  intro pins s σ H Q I h
  refine wpAny_Call_Name_kw (ld_glob I hg hm (PySem.W.callWith_K (h₀ := X.base) I.ok.mod.kin hk (thn (ha.run pos pins s σ H _ I h) fun us s1 ⟨vs, H1, I1, rel, q⟩ => ⟨I1.kIn, ?_⟩) he hpl) hdb)
  have q : sp (vs ++ []) H1 Q E0 := q
  rw [List.append_nil] at q
  have hl : us.length = ps.length := by rw [← rel.length]; exact F.len _ _ _ _ q
  have bd := hb s1 us I1.kIn (by rw [List.append_nil]; exact hl)
  rw [List.append_nil] at bd
  refine wpAny_call (codeAny_mono (F.run X.A X.stack s1 H1 ⟨us, []⟩ us vs Q E0 hr I1.env0 bd rel q) fun r s' out => ?_)
  cases r with
  | error x => exact pass0 pins σ H1 s1 x s' I1 out
  | ok fl =>
    cases fl with
    | ret u => exact I1.after out
    | next => exact False.elim out
    | brk => exact False.elim out
    | cont => exact False.elim out
end
section
variable {X : Cx} {f : Addr} {fd : FuncData} {ps : List Str} {sp : Sp} {k : Nat} {n : Str} {p pos : Pos} {e : Expr} {es : List Expr} {Γ Γ1 : List Slot} {as : List Arg} {t : Ty} {x : t.den} {o y y' : Own}
theorem de_call (F : FnG X.prog X.w X.K X.mg X.base k f fd ps sp) (hr : RoomG k X.A) (hm : X.mg n = some (.ref f)) (hk : PySem.W.keepIn X.K (.ref f) = true) (hb : Binds X.K fd ps [])
    (hsp : ∀ vs H Q, Pm0 X.K as (.fr t x) vs H Q E0 → sp vs H Q E0) (ha : DA X (e :: es) Γ as Γ1) (hf : as.all Arg.isFr = true := by rfl)
    (hg : Gl X n := by rfl) (hdb : (n == ("__debug__" : Str)) = false := by decide) (he : starEach (e :: es) X.env = (false, eval e X.env) :: starEach es X.env := by rfl) (hpl : (backTo pos (starEach es X.env)).any (·.1) = false := by rfl) :
    DE X (.Call (.Name n p) (e :: es) [] pos) Γ t x Γ1 := fun Fx G σ H W Q q =>
  wpe_of (pe_callG F hr hg hm hk hb pa_wp hdb he hpl) (ha Fx G σ H W _ fun vs G1 H1 s1 W1 r1 => by
    rw [List.append_nil]
    exact hsp vs H1 Q ⟨G1, W1.gh, argF_of r1 hf, fun v G2 H2 s2 s3 s4 fr r => q v G2 H2 (s1.trans s2) (W1.call s2 s3 s4 fr) r⟩)
theorem do_call (F : FnG X.prog X.w X.K X.mg X.base k f fd ps sp) (hr : RoomG k X.A) (hm : X.mg n = some (.ref f)) (hk : PySem.W.keepIn X.K (.ref f) = true) (hb : Binds X.K fd ps [])
    (hsp : ∀ vs H Q, Pm0 X.K as (.ow o) vs H Q E0 → sp vs H Q E0) (ha : DA X (e :: es) Γ as Γ1) (hf : as.all Arg.isFr = true := by rfl)
    (hg : Gl X n := by rfl) (hdb : (n == ("__debug__" : Str)) = false := by decide) (he : starEach (e :: es) X.env = (false, eval e X.env) :: starEach es X.env := by rfl) (hpl : (backTo pos (starEach es X.env)).any (·.1) = false := by rfl) :
    DO X (.Call (.Name n p) (e :: es) [] pos) Γ o Γ1 := fun Fx G σ H W Q q =>
  wpe_of (pe_callG F hr hg hm hk hb pa_wp hdb he hpl) (ha Fx G σ H W _ fun vs G1 H1 s1 W1 r1 => by
    rw [List.append_nil]
    exact hsp vs H1 Q ⟨G1, W1.gh, argF_of r1 hf, fun v G2 H2 s2 s3 s4 fr r => by
      obtain ⟨a, ho, rfl, h0, h1, h2, h3⟩ := r
      have W2 := W1.call s2 s3 s4 fr
      exact q a ho G2 H2 (s1.trans s2) ⟨W2.len, W2.gh, fun c u e => by
          change upd Fx.T a ho c = some u at e
          by_cases z : c = a
          · subst z; rw [upd_same] at e; rw [h2]; exact e
          · rw [upd_ne z] at e; exact W2.th c u e, fun c u e hn => by
          change upd Fx.T a ho c = some u at e
          by_cases z : c = a
          · subst z; exact h1
          · rw [upd_ne z] at e; exact W2.tg c u e hn, fun i s e => by
          have qq := W1.sl i s e
          have q2 := W2.sl i s e
          cases s with
          | un => exact q2
          | fr t x => exact q2
          | mb t x => exact q2
          | ow pin o =>
            obtain ⟨c, ho', e1, e2, e3, e4, e5, e6⟩ := q2
            obtain ⟨c', ho2, d1, d2, d3, d4, d5, d6⟩ := qq
            rw [e1] at d1; cases d1
            have ne : c ≠ a := ne_of_none d4 h0
            exact ⟨c, ho', e1, e2, (by show upd Fx.T a ho c = none; rw [upd_ne ne]; exact e3), e4, e5, e6⟩
          | ns t x => trivial, W2.dj, W1.ns.goN (fun _ _ _ e => ⟨e, rfl⟩) s2 fun c o q1 hn q2 q3 q4 => by
            have ne : c ≠ a := ne_of_none q1 h0
            exact ⟨s4 c o q1, fr c o q1 hn q2, (by show upd Fx.T a ho c = none; rw [upd_ne ne]; exact q3), q4⟩⟩ (W1.tn h0) h3⟩)
/-- f(box, ..): the box is changed -/
theorem de_callB (i : Nat) {pin : Bool} (F : FnG X.prog X.w X.K X.mg X.base k f fd ps sp) (hr : RoomG k X.A) (hm : X.mg n = some (.ref f)) (hk : PySem.W.keepIn X.K (.ref f) = true) (hb : Binds X.K fd ps [])
    (hsp : ∀ vs H Q, Pm1 X.K y y' as (.fr t x) vs H Q E0 → sp vs H Q E0) (ha : DA X (e :: es) Γ (.bx i :: as) Γ1) (hi : Γ1[i]? = some (.ow pin y) := by rfl) (hf : as.all Arg.isFr = true := by rfl)
    (hg : Gl X n := by rfl) (hdb : (n == ("__debug__" : Str)) = false := by decide) (he : starEach (e :: es) X.env = (false, eval e X.env) :: starEach es X.env := by rfl) (hpl : (backTo pos (starEach es X.env)).any (·.1) = false := by rfl) :
    DE X (.Call (.Name n p) (e :: es) [] pos) Γ t x (Γ1.set i (.ow pin y')) := fun Fx G σ H W Q q =>
  wpe_of (pe_callG F hr hg hm hk hb pa_wp hdb he hpl) (ha Fx G σ H W _ fun vs G1 H1 s1 W1 r1 => by
    rw [List.append_nil]
    cases r1 with
    | @cons v _ vs' _ r r1 =>
      obtain ⟨b, ho, h1, h2, h3, h4, h5, h6⟩ := W1.sl i _ hi
      have r' : σ[i]? = some (some v) := r
      rw [h1] at r'; cases r'
      exact hsp _ H1 Q ⟨G1, b, ho, vs', rfl, W1.gh, h2, h4, h5, argF_of r1 hf, fun v G2 H2 ho' s2 s3 s4 hb' ok fr r => q v G2 H2 (s1.trans s2) (W1.callB hi h1 s2 s3 s4 fr hb' ok) r⟩)
theorem do_callB (i : Nat) {pin : Bool} (F : FnG X.prog X.w X.K X.mg X.base k f fd ps sp) (hr : RoomG k X.A) (hm : X.mg n = some (.ref f)) (hk : PySem.W.keepIn X.K (.ref f) = true) (hb : Binds X.K fd ps [])
    (hsp : ∀ vs H Q, Pm1 X.K y y' as (.ow o) vs H Q E0 → sp vs H Q E0) (ha : DA X (e :: es) Γ (.bx i :: as) Γ1) (hi : Γ1[i]? = some (.ow pin y) := by rfl) (hf : as.all Arg.isFr = true := by rfl)
    (hg : Gl X n := by rfl) (hdb : (n == ("__debug__" : Str)) = false := by decide) (he : starEach (e :: es) X.env = (false, eval e X.env) :: starEach es X.env := by rfl) (hpl : (backTo pos (starEach es X.env)).any (·.1) = false := by rfl) :
    DO X (.Call (.Name n p) (e :: es) [] pos) Γ o (Γ1.set i (.ow pin y')) := fun Fx G σ H W Q q =>
  wpe_of (pe_callG F hr hg hm hk hb pa_wp hdb he hpl) (ha Fx G σ H W _ fun vs G1 H1 s1 W1 r1 => by
    rw [List.append_nil]
    cases r1 with
    | @cons v _ vs' _ r r1 =>
      obtain ⟨b, ho, h1, h2, h3, h4, h5, h6⟩ := W1.sl i _ hi
      have r' : σ[i]? = some (some v) := r
      rw [h1] at r'; cases r'
      refine hsp _ H1 Q ⟨G1, b, ho, vs', rfl, W1.gh, h2, h4, h5, argF_of r1 hf, fun v G2 H2 ho' s2 s3 s4 hb' ok fr r => ?_⟩
      obtain ⟨a, hoa, rfl, g0, g1, g2, g3⟩ := r
      have W2 := W1.callB hi h1 s2 s3 s4 fr hb' ok
      refine q a hoa G2 H2 (s1.trans s2) ⟨W2.len, W2.gh, fun c u e => ?_, fun c u e => ?_, fun j s e => ?_, W2.dj, W1.ns.goN (fun j t x e => ⟨(set_ns rfl e).2, rfl⟩) s2 fun c u q1 hn q2 q3 q4 => by
        have ne : c ≠ a := ne_of_none q1 g0
        have nb : c ≠ b := fun z => by subst z; exact q4 i _ hi rfl h1
        refine ⟨s4 c u nb q1, fr c u q1 hn q2, (by show upd Fx.T a hoa c = none; rw [upd_ne ne]; exact q3), fun j s e o => ?_⟩
        rcases set_get e with ⟨rfl, _, _⟩ | ⟨_, e⟩
        · exact q4 i _ hi rfl
        · exact q4 j s e o⟩ (W1.tn g0) g3
      · change upd Fx.T a hoa c = some u at e
        by_cases z : c = a
        · subst z; rw [upd_same] at e; rw [g2]; exact e
        · rw [upd_ne z] at e; exact W2.th c u e
      · change upd Fx.T a hoa c = some u at e
        by_cases z : c = a
        · subst z; exact fun _ => g1
        · rw [upd_ne z] at e; exact W2.tg c u e
      · have q2 := W2.sl j s e
        cases s with
        | un => exact q2
        | fr t x => exact q2
        | mb t x => exact q2
        | ow pin' o' =>
          obtain ⟨c, ho2, e1, e2, e3, e4, e5, e6⟩ := q2
          have hc : ∃ ho3, H1 c = some ho3 := by
            by_cases hj : i = j
            · subst hj; rw [h1] at e1; cases e1; exact ⟨_, h4⟩
            · rw [List.getElem?_set_ne hj] at e
              obtain ⟨c', ho3, d1, d2, d3, d4, _⟩ := W1.sl j _ e
              rw [e1] at d1; cases d1
              exact ⟨_, d4⟩
          obtain ⟨ho3, hc⟩ := hc
          have ne : c ≠ a := ne_of_none hc g0
          exact ⟨c, ho2, e1, e2, (by show upd Fx.T a hoa c = none; rw [upd_ne ne]; exact e3), e4, e5, e6⟩
        | ns t x => trivial)
/-- f(a new thing, ..): the thing is let go behind -/
theorem de_callT (F : FnG X.prog X.w X.K X.mg X.base k f fd ps sp) (hr : RoomG k X.A) (hm : X.mg n = some (.ref f)) (hk : PySem.W.keepIn X.K (.ref f) = true) (hb : Binds X.K fd ps [])
    (hsp : ∀ vs H Q, Pm1 X.K y y' as (.fr t x) vs H Q E0 → sp vs H Q E0) (ha : DA X (e :: es) Γ (.tmp y :: as) Γ1) (hf : as.all Arg.isFr = true := by rfl)
    (hg : Gl X n := by rfl) (hdb : (n == ("__debug__" : Str)) = false := by decide) (he : starEach (e :: es) X.env = (false, eval e X.env) :: starEach es X.env := by rfl) (hpl : (backTo pos (starEach es X.env)).any (·.1) = false := by rfl) :
    DE X (.Call (.Name n p) (e :: es) [] pos) Γ t x Γ1 := fun Fx G σ H W Q q =>
  wpe_of (pe_callG F hr hg hm hk hb pa_wp hdb he hpl) (ha Fx G σ H W _ fun vs G1 H1 s1 W1 r1 => by
    rw [List.append_nil]
    cases r1 with
    | @cons v _ vs' _ r r1 =>
      obtain ⟨b, ho, rfl, hT, ok0, Wt⟩ := r
      obtain ⟨hh, hg0'⟩ := Wt.held
      have hg0 := hg0' (own_nt ok0)
      refine hsp _ H1 Q ⟨G1, b, ho, vs', rfl, W1.gh, hg0, hh, ok0, argF_of r1 hf, fun v G2 H2 ho' s2 s3 s4 hb' ok fr r => q v G2 H2 (s1.trans s2) ?_ r⟩
      have ntb : ∀ c u, Fx.T c = some u → c ≠ b := fun c u e => ne_of_none e hT
      refine ⟨W1.len, s3, fun c u e => s4 c u (ntb c u e) (W1.th c u e), fun c u e hn => fr c u (W1.th c u e) hn (W1.tg c u e hn), fun j s e => ?_, W1.dj, Wt.ns.goN (fun _ _ _ e => ⟨e, rfl⟩) s2 fun c u q1 hn q2 q3 q4 => by
        have q3' : upd Fx.T b ho c = none := q3
        have ne : c ≠ b := fun z => by subst z; rw [upd_same] at q3'; cases q3'
        rw [upd_ne ne] at q3'
        exact ⟨s4 c u ne q1, fr c u q1 hn q2, q3', q4⟩⟩
      have q2 := Wt.sl j s e
      cases s with
      | un => exact q2
      | fr t x => obtain ⟨v, h1, h2⟩ := q2; exact ⟨v, h1, rep_mono s2 t v x h2⟩
      | mb t x => exact fun y hy => by obtain ⟨v, h1, h2⟩ := q2 y hy; exact ⟨v, h1, rep_mono s2 t v y h2⟩
      | ow pin' o' =>
        obtain ⟨c, ho2, e1, e2, e3, e4, e5, e6⟩ := q2
        change upd Fx.T b ho c = none at e3
        have ne : c ≠ b := fun z => by subst z; rw [upd_same] at e3; cases e3
        rw [upd_ne ne] at e3
        exact ⟨c, ho2, e1, fr c _ e4 (own_nt e5) e2, e3, s4 c _ ne e4, own_mono s2 e5, e6⟩
      | ns t x => trivial)
end
end Dn

set_option Elab.async false
set_option linter.all false
set_option maxRecDepth 100000
set_option maxHeartbeats 1000000
/-! Dn, part 5: statements, ends, a def by its body. -/
namespace Dn
open PySem PySem.Spec PyProof.Rows L2 TL

inductive Lp (S ρ : Type) where
  | go (s : S) | stop (s : S) | ret (x : ρ)
inductive Out (ρ : Type) : Type 1 where
  | nx (Γ : List Slot) | bk (Γ : List Slot) | ct (Γ : List Slot) | rt (x : ρ)
  | br (b : Bool) (o1 o2 : Out ρ)
  | lp {S : Type} (r : Lp S ρ) (k : S → Out ρ)
abbrev RI (ρ : Type) := Fx → Hp → L2.St → Hp → V → ρ → Prop
def OutOk {ρ : Type} (K : PySem.W.Frag) (R : RI ρ) (F : Fx) (D : Ends) : Hp → Out ρ → Prop
  | G, .nx Γ => ∀ σ G' H, Same G G' → Wd K F G' σ H Γ → D.nx σ H
  | G, .bk Γ => ∀ σ G' H, Same G G' → Wd K F G' σ H Γ → D.bk σ H
  | G, .ct Γ => ∀ σ G' H, Same G G' → Wd K F G' σ H Γ → D.ct σ H
  | G, .rt x => ∀ v σ G' H, Same G G' → R F G' σ H v x → D.rt v H
  | G, .br b o1 o2 => (b = true → OutOk K R F D G o1) ∧ (b = false → OutOk K R F D G o2)
  | G, .lp r k => match r with
    | .go s => OutOk K R F D G (k s)
    | .stop s => OutOk K R F D G (k s)
    | .ret x => ∀ v σ G' H, Same G G' → R F G' σ H v x → D.rt v H
section
variable {ρ : Type} {K : PySem.W.Frag} {R : RI ρ} {F : Fx} {D : Ends}
theorem outOk_mono {G G' : Hp} (e : Same G G') : ∀ {o : Out ρ}, OutOk K R F D G o → OutOk K R F D G' o
  | .nx Γ, h => fun σ G2 H s W => h σ G2 H (e.trans s) W
  | .bk Γ, h => fun σ G2 H s W => h σ G2 H (e.trans s) W
  | .ct Γ, h => fun σ G2 H s W => h σ G2 H (e.trans s) W
  | .rt x, h => fun v σ G2 H s W => h v σ G2 H (e.trans s) W
  | .br b o1 o2, h => ⟨fun hb => outOk_mono e (h.1 hb), fun hb => outOk_mono e (h.2 hb)⟩
  | .lp (.go s) k, h => outOk_mono (o := k s) e h
  | .lp (.stop s) k, h => outOk_mono (o := k s) e h
  | .lp (.ret x) k, h => fun v σ G2 H s W => h v σ G2 H (e.trans s) W
end
def DSv {ρ : Type} (K : PySem.W.Frag) (R : RI ρ) (ts : TS) (Γ : List Slot) (o : Out ρ) : Prop :=
  ∀ (F : Fx) (G : Hp) (σ : L2.St) (H : Hp), Wd K F G σ H Γ → ∀ D : Ends, OutOk K R F D G o → ts D σ H
abbrev DS (X : Cx) {ρ : Type} (R : RI ρ) (st : Stmt) (Γ : List Slot) (o : Out ρ) : Prop := DSv X.K R (WPS X st) Γ o
abbrev DSs (X : Cx) {ρ : Type} (R : RI ρ) (st : List Stmt) (Γ : List Slot) (o : Out ρ) : Prop := DSv X.K R (WPSs X st) Γ o
/-- o, then the rest where it goes on, is o' -/
def Cont (X : Cx) {ρ : Type} (R : RI ρ) (o : Out ρ) (rest : List Stmt) (o' : Out ρ) : Prop :=
  ∀ (F : Fx) (D : Ends) (G : Hp), OutOk X.K R F D G o' → OutOk X.K R F { D with nx := fun σ H => WPSs X rest D σ H } G o
section
variable {X : Cx} {ρ : Type} {R : RI ρ} {st : Stmt} {rest : List Stmt} {Γ Γ1 Γ2 : List Slot} {o o' o1 o2 o1' o2' : Out ρ}
theorem dss_nil : DSs X R [] Γ (.nx Γ) := fun F G σ H W D h => wpss_of pss_nil (h σ G H (Same.refl G) W)
theorem dss_one (h : DS X R st Γ o) : DSs X R [st] Γ o := fun F G σ H W D q => wpss_of (pss_one ps_wp) (h F G σ H W D q)
theorem dss_cons (h : DS X R st Γ o) (c : Cont X R o rest o') : DSs X R (st :: rest) Γ o' := fun F G σ H W D q => wpss_of (pss_cons ps_wp pss_wp) (h F G σ H W _ (c F D G q))
theorem cont_nx (h : DSs X R rest Γ o) : Cont X R (.nx Γ) rest o := fun F D G q σ G' H s W => h F G' σ H W D (outOk_mono s q)
theorem cont_let {S : Type} {Γs : S → List Slot} {s0 : S} {of : S → Out ρ} (h : ∀ s, DSs X R rest (Γs s) (of s)) : Cont X R (.nx (Γs s0)) rest (of s0) := cont_nx (h s0)
theorem cont_bk : Cont X R (.bk Γ) rest (.bk Γ) := fun F D G q => q
theorem cont_ct : Cont X R (.ct Γ) rest (.ct Γ) := fun F D G q => q
theorem cont_rt {x : ρ} : Cont X R (.rt x) rest (.rt x) := fun F D G q => q
theorem cont_br {b : Bool} (h1 : b = true → Cont X R o1 rest o1') (h2 : b = false → Cont X R o2 rest o2') : Cont X R (.br b o1 o2) rest (.br b o1' o2') := fun F D G q =>
  ⟨fun hb => h1 hb F D G (q.1 hb), fun hb => h2 hb F D G (q.2 hb)⟩
theorem cont_lp {S : Type} {r : Lp S ρ} {k k' : S → Out ρ} (h : ∀ s, Cont X R (k s) rest (k' s)) : Cont X R (.lp r k) rest (.lp r k') := fun F D G q => by
  cases r with
  | go s => exact h s F D G q
  | stop s => exact h s F D G q
  | ret x => exact q
end

/-! ### what stands for less -/
def Ent (K : PySem.W.Frag) (Γ Γ' : List Slot) : Prop := ∀ (F : Fx) (G : Hp) (σ : L2.St) (H : Hp), Wd K F G σ H Γ → ∃ G', Same G G' ∧ Wd K F G' σ H Γ'
inductive Wk : List Slot → List Slot → Prop where
  | nil : Wk [] []
  | eq {s : Slot} {l m : List Slot} (h : Wk l m) : Wk (s :: l) (s :: m)
  | un {s : Slot} {l m : List Slot} (h : Wk l m) : Wk (s :: l) (.un :: m)
theorem Wk.len {l m : List Slot} (h : Wk l m) : l.length = m.length := by
  induction h with
  | nil => rfl
  | eq _ ih => simp [ih]
  | un _ ih => simp [ih]
theorem Wk.get {l m : List Slot} (h : Wk l m) : ∀ (i : Nat) (s : Slot), m[i]? = some s → s = .un ∨ l[i]? = some s := by
  induction h with
  | nil => intro i s e; simp at e
  | eq _ ih => intro i s e; cases i with
    | zero => exact .inr (by simpa using e)
    | succ i => simpa using ih i s (by simpa using e)
  | un _ ih => intro i s e; cases i with
    | zero => exact .inl (by simpa using e.symm)
    | succ i => simpa using ih i s (by simpa using e)
section
variable {K : PySem.W.Frag} {F : Fx} {G G' H H' : Hp} {σ σ' : L2.St} {Γ Γ' Γ2 : List Slot}
theorem Wd.weak (W : Wd K F G σ H Γ) (k : Wk Γ Γ') : Wd K F G σ H Γ' where
  len := W.len.trans k.len
  gh := W.gh
  th := W.th
  tg := W.tg
  sl := fun i s e => by
    rcases k.get i s e with z | z
    · subst z; trivial
    · exact W.sl i s z
  dj := fun i j s s' p ne e1 o1 e2 o2 h1 h2 => by
    rcases k.get i s e1 with z | z
    · subst z; cases o1
    · rcases k.get j s' e2 with y | y
      · subst y; cases o2
      · exact W.dj i j s s' p ne z o1 y o2 h1 h2
  ns := W.ns.go (fun j t x e => by
    rcases k.get j _ e with z | z
    · cases z
    · exact ⟨z, rfl⟩) (Same.refl G) fun a o q1 q2 q3 q4 => ⟨q1, q2, q3, fun j s e o => by
    rcases k.get j s e with z | z
    · subst z; cases o
    · exact q4 j s z o⟩
theorem ent_refl : Ent K Γ Γ := fun F G σ H W => ⟨G, Same.refl G, W⟩
theorem ent_wk (k : Wk Γ Γ') : Ent K Γ Γ' := fun F G σ H W => ⟨G, Same.refl G, W.weak k⟩
theorem ent_trans (a : Ent K Γ Γ') (b : Ent K Γ' Γ2) : Ent K Γ Γ2 := fun F G σ H W => by
  obtain ⟨G1, s1, W1⟩ := a F G σ H W
  obtain ⟨G2, s2, W2⟩ := b F G1 σ H W1
  exact ⟨G2, s1.trans s2, W2⟩
theorem ent_frz (i : Nat) {t : Ty} {xs : List t.den} (h : Γ[i]? = some (.ow false (.lst t xs)) := by rfl) : Ent K Γ (Γ.set i (.fr (.lst t) xs)) := fun F G σ H W => by
  obtain ⟨p, vs, h1, h2, h3, r, W'⟩ := W.freezeSlot h
  exact ⟨_, same_upd h2, W'⟩
/-- a name holds a frozen thing -/
theorem Wd.setFr {i : Nat} {t : Ty} {x : t.den} {v : V} (W : Wd K F G σ H Γ) (r : Rep K t G v x) : Wd K F G (σ.set i (some v)) H (Γ.set i (.fr t x)) where
  len := by rw [List.length_set, List.length_set]; exact W.len
  gh := W.gh
  th := W.th
  tg := W.tg
  sl := fun j s e => by
    by_cases hj : i = j
    · subst hj
      have il : i < Γ.length := by have := (List.getElem?_eq_some_iff.mp e).1; rwa [List.length_set] at this
      rw [List.getElem?_set_self il] at e; cases e
      exact ⟨v, List.getElem?_set_self (by rw [W.len]; exact il), r⟩
    · rw [List.getElem?_set_ne hj] at e ⊢; exact W.sl j s e
  dj := fun j k s s' p ne e1 o1 e2 o2 h1 h2 => by
    have a : ∀ (j : Nat) (s : Slot), (Γ.set i (.fr t x))[j]? = some s → s.isOw = true → i ≠ j := fun j s e o z => by
      subst z
      have il : i < Γ.length := by have := (List.getElem?_eq_some_iff.mp e).1; rwa [List.length_set] at this
      rw [List.getElem?_set_self il] at e; cases e; cases o
    have b1 := a j s e1 o1
    have b2 := a k s' e2 o2
    rw [List.getElem?_set_ne b1] at e1 h1
    rw [List.getElem?_set_ne b2] at e2 h2
    exact W.dj j k s s' p ne e1 o1 e2 o2 h1 h2
  ns := W.ns.go (fun j t x e => ⟨(set_ns rfl e).2, List.getElem?_set_ne (set_ns rfl e).1⟩) (Same.refl G) fun a o q1 q2 q3 q4 => ⟨q1, q2, q3, fun j s e o => by
    have := set_ow rfl e o
    rw [List.getElem?_set_ne this.1]
    exact q4 j s this.2 o⟩
/-- a name holds what was held aside -/
theorem Wd.setOw {i : Nat} {o : Own} {p : Addr} {ho : HO} (W : Wd K { F with T := upd F.T p ho } G σ H Γ) (hT : F.T p = none) (ok : OwnOk K G ho o) : Wd K F G (σ.set i (some (.ref p))) H (Γ.set i (.ow false o)) := by
  have W0 := W.drop hT
  have held := W.held
  have np : ∀ (j : Nat) (s : Slot), Γ[j]? = some s → s.isOw = true → σ[j]? ≠ some (some (.ref p)) := fun j s e o z => by
    cases s with
    | ow pin o' =>
      obtain ⟨a, ho', h1, h2, h3, _⟩ := W.sl j _ e
      rw [z] at h1; cases h1
      have h3' : upd F.T p ho p = none := h3
      rw [upd_same] at h3'; cases h3'
    | _ => cases o
  refine ⟨by rw [List.length_set, List.length_set]; exact W.len, W.gh, W0.th, W0.tg, fun j s e => ?_, fun j k s s' q ne e1 o1 e2 o2 h1 h2 => ?_, W.ns.go (fun j t x e => ⟨(set_ns rfl e).2, List.getElem?_set_ne (set_ns rfl e).1⟩) (Same.refl G) fun a ho' q1 q2 q3 q4 => ?_⟩
  · by_cases hj : i = j
    · subst hj
      have il : i < Γ.length := by have := (List.getElem?_eq_some_iff.mp e).1; rwa [List.length_set] at this
      rw [List.getElem?_set_self il] at e; cases e
      exact ⟨p, ho, List.getElem?_set_self (by rw [W.len]; exact il), held.2 (own_nt ok), hT, held.1, ok, fun z => by cases z⟩
    · rw [List.getElem?_set_ne hj] at e ⊢; exact W0.sl j s e
  · by_cases hj : i = j
    · subst hj
      have hk : i ≠ k := ne
      have il : i < Γ.length := by have := (List.getElem?_eq_some_iff.mp e1).1; rwa [List.length_set] at this
      rw [List.getElem?_set_self (by rw [W.len]; exact il)] at h1
      cases h1
      rw [List.getElem?_set_ne hk] at e2 h2
      exact np k s' e2 o2 h2
    · by_cases hk : i = k
      · subst hk
        have il : i < Γ.length := by have := (List.getElem?_eq_some_iff.mp e2).1; rwa [List.length_set] at this
        rw [List.getElem?_set_self (by rw [W.len]; exact il)] at h2
        cases h2
        rw [List.getElem?_set_ne hj] at e1 h1
        exact np j s e1 o1 h1
      · rw [List.getElem?_set_ne hj] at e1 h1
        rw [List.getElem?_set_ne hk] at e2 h2
        exact W.dj j k s s' q ne e1 o1 e2 o2 h1 h2
  · have q3' : upd F.T p ho a = none := q3
    have ne : a ≠ p := fun z => by subst z; rw [upd_same] at q3'; cases q3'
    rw [upd_ne ne] at q3'
    refine ⟨q1, q2, q3', fun j s e o => ?_⟩
    rcases set_get e with ⟨rfl, _, il⟩ | ⟨hj, e⟩
    · rw [List.getElem?_set_self (by rw [W.len]; exact il)]
      intro z; cases z; exact ne rfl
    · rw [List.getElem?_set_ne hj]; exact q4 j s e o
/-- the owned thing of slot i is taken out of it and held aside -/
theorem Wd.move {i : Nat} {o : Own} (W : Wd K F G σ H Γ) (h : Γ[i]? = some (.ow false o)) : ∃ p ho, σ[i]? = some (some (.ref p)) ∧ F.T p = none ∧ OwnOk K G ho o ∧ Wd K { F with T := upd F.T p ho } G σ H (Γ.set i .un) := by
  obtain ⟨p, ho, h1, h2, h3, h4, h5, h6⟩ := W.sl i _ h
  have il : i < Γ.length := (List.getElem?_eq_some_iff.mp h).1
  have out : ∀ (j : Nat) (s : Slot), (Γ.set i .un)[j]? = some s → s.isOw = true → i ≠ j ∧ Γ[j]? = some s := fun j s e o => by
    have hj : i ≠ j := fun z => by subst z; rw [List.getElem?_set_self il] at e; cases e; cases o
    rw [List.getElem?_set_ne hj] at e
    exact ⟨hj, e⟩
  refine ⟨p, ho, h1, h3, h5, by rw [List.length_set]; exact W.len, W.gh, fun b u e => ?_, fun b u e => ?_, fun j s e => ?_, fun j k s s' q ne e1 o1 e2 o2 q1 q2 => ?_, W.ns.go (fun j t x e => ⟨(set_ns rfl e).2, rfl⟩) (Same.refl G) fun a o' q1 q2 q3 q4 => ⟨q1, q2, (by show upd F.T p ho a = none; rw [upd_ne (fun z => by subst z; exact q4 i _ h rfl h1)]; exact q3), fun j s e o => q4 j s (set_ow rfl e o).2 o⟩⟩
  · change upd F.T p ho b = some u at e
    by_cases hb : b = p
    · subst hb; rw [upd_same] at e; rw [h4]; exact e
    · rw [upd_ne hb] at e; exact W.th b u e
  · change upd F.T p ho b = some u at e
    by_cases hb : b = p
    · subst hb; exact fun _ => h2
    · rw [upd_ne hb] at e; exact fun hn => W.tg b u e hn
  · by_cases hj : i = j
    · subst hj; rw [List.getElem?_set_self il] at e; cases e; trivial
    · rw [List.getElem?_set_ne hj] at e
      have q := W.sl j s e
      cases s with
      | un => exact q
      | fr t x => exact q
      | mb t x => exact q
      | ow pin o' =>
        obtain ⟨a, ho', d1, d2, d3, d4, d5, d6⟩ := q
        have ne : a ≠ p := fun z => by subst z; exact W.dj i j _ _ a hj h rfl e rfl h1 d1
        exact ⟨a, ho', d1, d2, (by show upd F.T p ho a = none; rw [upd_ne ne]; exact d3), d4, d5, d6⟩
      | ns t x => trivial
  · obtain ⟨_, a1⟩ := out j s e1 o1
    obtain ⟨_, a2⟩ := out k s' e2 o2
    exact W.dj j k s s' q ne a1 o1 a2 o2 q1 q2
end
section
variable {X : Cx} {Γ Γ1 Γ2 : List Slot} {e : Expr} {pos pos' : Pos} {t : Ty} {x : t.den} {o : Own} {n : Str}
/-- the name of slot i, what it owns handed on -/
theorem do_move (i : Nat) (h : Γ[i]? = some (.ow false o) := by rfl) (hN : X.N[i]? = some n := by rfl) (hv : Vis X.env.scope n := by first | exact Or.inl rfl | exact Or.inr (Or.inl rfl) | exact Or.inr (Or.inr rfl))
    (hd : (n == ("__debug__" : Str)) = false := by decide) (hcd : (n == ("__classdict__" : Str)) = false := by decide) : DO X (.Name n pos) Γ o (Γ.set i .un) := fun F G σ H W Q q => by
  obtain ⟨p, ho, h1, h2, h3, W'⟩ := W.move h
  exact wpe_of (pe_var hN hv hd hcd) ⟨.ref p, h1, q p ho G H (Same.refl G) W' h2 h3⟩
theorem de_ent {Γ' : List Slot} (h : DE X e Γ t x Γ1) (k : Ent X.K Γ1 Γ') : DE X e Γ t x Γ' := fun F G σ H W Q q => h F G σ H W Q fun v G1 H1 s1 W1 r => by
  obtain ⟨G2, s2, W2⟩ := k F G1 σ H1 W1
  exact q v G2 H1 (s1.trans s2) W2 (rep_mono s2 t v x r)

variable {ρ : Type} {R : RI ρ}
theorem ds_set (i : Nat) (he : DE X e Γ t x Γ1) (hN : X.N.Nodup) (hi : X.N[i]? = some n := by rfl) (hx : Loc X.env.scope n := by first | exact Or.inl rfl | exact Or.inr rfl) (hs : swapsWith e (some (.Name n pos')) pos.line X.env = pure false := by rfl) (hf : X.fn n = true ∨ X.env.scope.names.lookup n = some .local := by first | exact .inl rfl | exact .inr rfl) :
    DS X R (.Assign [.Name n pos'] e pos) Γ (.nx (Γ1.set i (.fr t x))) := fun F G σ H W D q =>
  wps_of (ps_set hN hi hx pe_wp hs hf) (he F G σ H W _ fun v G' H' s W' r => q _ G' H' s (W'.setFr r))
theorem ds_setO (i : Nat) (he : DO X e Γ o Γ1) (hN : X.N.Nodup) (hi : X.N[i]? = some n := by rfl) (hx : Loc X.env.scope n := by first | exact Or.inl rfl | exact Or.inr rfl) (hs : swapsWith e (some (.Name n pos')) pos.line X.env = pure false := by rfl) (hf : X.fn n = true ∨ X.env.scope.names.lookup n = some .local := by first | exact .inl rfl | exact .inr rfl) :
    DS X R (.Assign [.Name n pos'] e pos) Γ (.nx (Γ1.set i (.ow false o))) := fun F G σ H W D q =>
  wps_of (ps_set hN hi hx pe_wp hs hf) (he F G σ H W _ fun p ho G' H' s W' hT ok => q _ G' H' s (W'.setOw hT ok))
theorem ds_if {b : Bool} {c : Expr} {s1 s2 : List Stmt} {o1 o2 : Out ρ} (hc : DT X c Γ b Γ1) (h1 : b = true → DSs X R s1 Γ1 o1) (h2 : b = false → DSs X R s2 Γ1 o2) : DS X R (.If c s1 s2 pos) Γ (.br b o1 o2) := fun F G σ H W D q =>
  wps_of (ps_if pt_wp pss_wp pss_wp) (hc F G σ H W _ fun G' H' s W' => by
    cases b with
    | true => rw [if_pos rfl]; exact h1 rfl F G' σ H' W' D (outOk_mono s (q.1 rfl))
    | false => rw [if_neg Bool.false_ne_true]; exact h2 rfl F G' σ H' W' D (outOk_mono s (q.2 rfl)))
/-- ways that go on alike are joined: Γs of what they bring -/
inductive Nx (K : PySem.W.Frag) {S : Type} (Γs : S → List Slot) {ρ : Type} : Out ρ → S → Prop where
  | nx {Γ : List Slot} {s : S} (h : Ent K Γ (Γs s)) : Nx K Γs (.nx Γ) s
  | br {b : Bool} {o1 o2 : Out ρ} {s1 s2 : S} (h1 : b = true → Nx K Γs o1 s1) (h2 : b = false → Nx K Γs o2 s2) : Nx K Γs (.br b o1 o2) (bif b then s1 else s2)
theorem nx_ok {K : PySem.W.Frag} {S : Type} {Γs : S → List Slot} {o : Out ρ} {s : S} {F : Fx} {D : Ends} {G : Hp} (h : Nx K Γs o s) (q : OutOk K R F D G (.nx (Γs s))) : OutOk K R F D G o := by
  induction h with
  | nx h =>
    intro σ G' H sg W
    obtain ⟨G2, s2, W2⟩ := h F G' σ H W
    exact q σ G2 H (sg.trans s2) W2
  | @br b o1 o2 s1 s2 h1 h2 ih1 ih2 =>
    refine ⟨fun hb => ?_, fun hb => ?_⟩
    · subst hb; exact ih1 rfl q
    · subst hb; exact ih2 rfl q
theorem ds_join {S : Type} (Γs : S → List Slot) {st : Stmt} {o : Out ρ} {s : S} (h : DS X R st Γ o) (k : Nx X.K Γs o s) : DS X R st Γ (.nx (Γs s)) := fun F G σ H W D q => h F G σ H W D (nx_ok k q)
theorem ds_expr (he : DE X e Γ t x Γ1) (hs : swapsWith e none pos.line X.env = pure false := by rfl) : DS X R (.Expr e pos) Γ (.nx Γ1) := fun F G σ H W D q =>
  wps_of (ps_expr pe_wp hs) (he F G σ H W _ fun v G' H' s W' _ => q σ G' H' s W')
theorem ds_pass : DS X R (.Pass pos) Γ (.nx Γ) := fun F G σ H W D q => wps_of ps_pass (q σ G H (Same.refl G) W)
theorem ds_break : DS X R (.Break pos) Γ (.bk Γ) := fun F G σ H W D q => wps_of ps_break (q σ G H (Same.refl G) W)
theorem ds_continue : DS X R (.Continue pos) Γ (.ct Γ) := fun F G σ H W D q => wps_of ps_continue (q σ G H (Same.refl G) W)
end

/-! ### return -/
def riF (K : PySem.W.Frag) (t : Ty) : RI t.den := fun F G σ H v x => (∃ Γ, Wd K F G σ H Γ) ∧ Rep K t G v x
def riB (K : PySem.W.Frag) (t : Ty) : RI (t.den × List Int) := fun F G σ H v x => (∃ Γ, Wd K F G σ H Γ ∧ Γ[0]? = some (.ow true (.lst .int x.2))) ∧ Rep K t G v x.1
def riO (K : PySem.W.Frag) (t : Ty) : RI (List t.den) := fun F G σ H v x => ∃ p ho, v = .ref p ∧ F.T p = none ∧ OwnOk K G ho (.lst t x) ∧ ∃ Γ, Wd K { F with T := upd F.T p ho } G σ H Γ
def riOB (K : PySem.W.Frag) (t : Ty) : RI (List t.den × List Int) := fun F G σ H v x => ∃ p ho, v = .ref p ∧ F.T p = none ∧ OwnOk K G ho (.lst t x.1) ∧ ∃ Γ, Wd K { F with T := upd F.T p ho } G σ H Γ ∧ Γ[0]? = some (.ow true (.lst .int x.2))
section
variable {X : Cx} {Γ Γ1 Γ2 : List Slot} {e : Expr} {pos pos' : Pos} {t : Ty} {x : t.den}
theorem ds_ret (he : DE X e Γ t x Γ1) : DS X (riF X.K t) (.Return (some e) pos) Γ (.rt x) := fun F G σ H W D q =>
  wps_of (ps_ret pe_wp) (he F G σ H W _ fun v G' H' s W' r => q v σ G' H' s ⟨⟨_, W'⟩, r⟩)
theorem ds_retB {y : List Int} (he : DE X e Γ t x Γ1) (h0 : Γ1[0]? = some (.ow true (.lst .int y)) := by rfl) : DS X (riB X.K t) (.Return (some e) pos) Γ (.rt (x, y)) := fun F G σ H W D q =>
  wps_of (ps_ret pe_wp) (he F G σ H W _ fun v G' H' s W' r => q v σ G' H' s ⟨⟨_, W', h0⟩, r⟩)
theorem ds_retO {xs : List t.den} (he : DO X e Γ (.lst t xs) Γ1) : DS X (riO X.K t) (.Return (some e) pos) Γ (.rt xs) := fun F G σ H W D q =>
  wps_of (ps_ret pe_wp) (he F G σ H W _ fun p ho G' H' s W' hT ok => q (.ref p) σ G' H' s ⟨p, ho, rfl, hT, ok, _, W'⟩)
theorem ds_retOB {xs : List t.den} {y : List Int} (he : DO X e Γ (.lst t xs) Γ1) (h0 : Γ1[0]? = some (.ow true (.lst .int y)) := by rfl) : DS X (riOB X.K t) (.Return (some e) pos) Γ (.rt (xs, y)) := fun F G σ H W D q =>
  wps_of (ps_ret pe_wp) (he F G σ H W _ fun p ho G' H' s W' hT ok => q (.ref p) σ G' H' s ⟨p, ho, rfl, hT, ok, _, W', h0⟩)
end

/-! ### a def's end -/
def Out.Rets {ρ : Type} : Out ρ → Prop
  | .rt _ => True
  | .br _ o1 o2 => o1.Rets ∧ o2.Rets
  | .lp _ k => ∀ s, (k s).Rets
  | _ => False
def Lp.fin {S ρ : Type} (r : Lp S ρ) (k : S → ρ) : ρ := match r with
  | .go s => k s
  | .stop s => k s
  | .ret x => x
def Out.val {ρ : Type} (d : ρ) : Out ρ → ρ
  | .rt x => x
  | .br b o1 o2 => bif b then o1.val d else o2.val d
  | .lp r k => r.fin fun s => (k s).val d
  | _ => d
theorem out_end {ρ : Type} {K : PySem.W.Frag} {R : RI ρ} {F : Fx} {D : Ends} {G : Hp} {d : ρ} : ∀ {o : Out ρ}, o.Rets → (∀ v σ G' H, Same G G' → R F G' σ H v (o.val d) → D.rt v H) → OutOk K R F D G o
  | .rt x, _, h => h
  | .br b o1 o2, r, h => ⟨fun hb => out_end r.1 (by subst hb; exact h), fun hb => out_end r.2 (by subst hb; exact h)⟩
  | .lp (.go s) k, r, h => out_end (o := k s) (r s) h
  | .lp (.stop s) k, r, h => out_end (o := k s) (r s) h
  | .lp (.ret x) k, _, h => h
  | .nx _, r, _ => r.elim
  | .bk _, r, _ => r.elim
  | .ct _, r, _ => r.elim
def Arg.slot : Arg → Slot
  | .fr t x => .fr t x
  | _ => .un
/-- what stands beside G: it stays -/
def besides (G H : Hp) : Hp := fun c => match G c with
  | none => H c
  | some _ => none
theorem besides_some {G H : Hp} {c : Addr} {o : HO} (h : besides G H c = some o) : H c = some o ∧ G c = none := by
  unfold besides at h
  cases e : G c with
  | none => rw [e] at h; exact ⟨h, rfl⟩
  | some u => rw [e] at h; cases h
theorem besides_of {G H : Hp} {c : Addr} (h : G c = none) : besides G H c = H c := by
  unfold besides
  rw [h]
theorem args_slots {K : PySem.W.Frag} {F : Fx} {G H : Hp} {vs : List V} {as : List Arg} {m : Nat} (h : Paired (ArgF K G) vs as) :
    ∀ (i : Nat) (s : Slot), (as.map Arg.slot ++ List.replicate m Slot.un)[i]? = some s → SlotOk K F G H ((vs.map some ++ List.replicate m (none : Option V))[i]?) s ∧ s.isOw = false := by
  induction h with
  | nil =>
    intro i s e
    have : s = .un := by
      simp only [List.map_nil, List.nil_append] at e
      have := List.mem_of_getElem? e
      exact List.eq_of_mem_replicate this
    subst this; exact ⟨trivial, rfl⟩
  | @cons v a _ _ r _ ih =>
    intro i s e
    cases i with
    | zero =>
      simp at e
      subst e
      cases a with
      | fr t x => exact ⟨⟨v, by simp, r⟩, rfl⟩
      | _ => exact False.elim r
    | succ i =>
      have := ih i s (by simpa using e)
      simpa using this
theorem args_ns {as : List Arg} {m : Nat} {i : Nat} {s : Slot} (e : (as.map Arg.slot ++ List.replicate m Slot.un)[i]? = some s) : s.isNs = false := by
  rcases List.mem_append.mp (List.mem_of_getElem? e) with h | h
  · obtain ⟨a, _, rfl⟩ := List.mem_map.mp h
    cases a <;> rfl
  · rw [List.eq_of_mem_replicate h]; rfl
theorem start_len {N : List Str} {vs : List V} : L2.start N vs = vs.map some ++ List.replicate (N.length - vs.length) none := rfl
section
variable {X : Cx} {N : List Str} {body : List Stmt} {as : List Arg} {vs : List V} {H : Hp} {Q : VK} {E : XK} {Γ0 : List Slot}
theorem body_F {t : Ty} {o : Out t.den} {d : t.den} (hb : DSs X (riF X.K t) body Γ0 o) (ho : o.Rets) (hp : Pm0 X.K as (.fr t (o.val d)) vs H Q E) (hΓ : Γ0 = as.map Arg.slot ++ List.replicate (N.length - as.length) .un := by rfl) (hl : as.length ≤ N.length := by exact Nat.le_of_ble_eq_true rfl) :
    WPSs X body { nx := fun _ H' => Q .non H', rt := Q } (L2.start N vs) H := by
  obtain ⟨G, sg, pr, k⟩ := hp
  have el := pair_len pr
  have ss := args_slots (F := ⟨besides G H, 0⟩) (H := H) (m := N.length - as.length) pr
  refine hb ⟨besides G H, 0⟩ G (L2.start N vs) H ⟨?_, sg, fun c u e => (besides_some e).1, fun c u e _ => (besides_some e).2, fun i s e => ?_, fun i j s s' p ne e1 o1 => ?_, NsOk.no fun i s e => by rw [hΓ] at e; exact args_ns e⟩ _ (out_end (d := d) ho fun v σ G' H' s1 r => ?_)
  · rw [hΓ, start_len]; simp [el]
  · rw [hΓ] at e; rw [start_len, el]; exact (ss i s e).1
  · rw [hΓ] at e1; rw [(ss i s e1).2] at o1; cases o1
  · obtain ⟨⟨Γ, W⟩, r⟩ := r
    refine k v G' H' s1 W.gh (fun c u e => ?_) (fun c u e hn n => ?_) r
    · cases g : G c with
      | none => exact W.th c u ((besides_of g).trans e)
      | some z => rw [sg c z g] at e; cases e; exact W.gh c _ (s1 c _ g)
    · exact W.tg c u ((besides_of n).trans e) hn
theorem body_O {t : Ty} {o : Out (List t.den)} {d : List t.den} (hb : DSs X (riO X.K t) body Γ0 o) (ho : o.Rets) (hp : Pm0 X.K as (.ow (.lst t (o.val d))) vs H Q E) (hΓ : Γ0 = as.map Arg.slot ++ List.replicate (N.length - as.length) .un := by rfl) (hl : as.length ≤ N.length := by exact Nat.le_of_ble_eq_true rfl) :
    WPSs X body { nx := fun _ H' => Q .non H', rt := Q } (L2.start N vs) H := by
  obtain ⟨G, sg, pr, k⟩ := hp
  have el := pair_len pr
  have ss := args_slots (F := ⟨besides G H, 0⟩) (H := H) (m := N.length - as.length) pr
  refine hb ⟨besides G H, 0⟩ G (L2.start N vs) H ⟨?_, sg, fun c u e => (besides_some e).1, fun c u e _ => (besides_some e).2, fun i s e => ?_, fun i j s s' p ne e1 o1 => ?_, NsOk.no fun i s e => by rw [hΓ] at e; exact args_ns e⟩ _ (out_end (d := d) ho fun v σ G' H' s1 r => ?_)
  · rw [hΓ, start_len]; simp [el]
  · rw [hΓ] at e; rw [start_len, el]; exact (ss i s e).1
  · rw [hΓ] at e1; rw [(ss i s e1).2] at o1; cases o1
  · obtain ⟨p, hop, rfl, hT, ok, Γ, W⟩ := r
    have W0 := W.drop hT
    have hd0 := W.held
    have hd : H' p = some hop ∧ G' p = none := ⟨hd0.1, hd0.2 (own_nt ok)⟩
    have pn : H p = none := by
      have hT' : besides G H p = none := hT
      cases g : G p with
      | none => rw [besides_of g] at hT'; exact hT'
      | some z => rw [s1 p z g] at hd; cases hd.2
    refine k (.ref p) G' H' s1 W.gh (fun c u e => ?_) (fun c u e hn n => ?_) ⟨p, hop, rfl, pn, hd.2, hd.1, ok⟩
    · cases g : G c with
      | none => exact W0.th c u ((besides_of g).trans e)
      | some z => rw [sg c z g] at e; cases e; exact W.gh c _ (s1 c _ g)
    · exact W0.tg c u ((besides_of n).trans e) hn
/-- all but the box -/
def but (H : Hp) (b : Addr) : Hp := fun c => if c = b then none else H c
theorem but_some {H : Hp} {b c : Addr} {o : HO} (h : but H b c = some o) : H c = some o ∧ c ≠ b := by
  unfold but at h
  split at h
  · cases h
  · rename_i ne; exact ⟨h, ne⟩
theorem box_start {K : PySem.W.Frag} {G : Hp} {b : Addr} {ho : HO} {y : Own} {vs' : List V} (sg : Same G H) (gb : G b = none) (hb : H b = some ho) (ok : OwnOk K G ho y) (pr : Paired (ArgF K G) vs' as) (hΓ : Γ0 = .ow true y :: (as.map Arg.slot ++ List.replicate (N.length - (as.length + 1)) .un)) (hl : as.length + 1 ≤ N.length) :
    Wd K ⟨but (besides G H) b, b⟩ G (L2.start N (.ref b :: vs')) H Γ0 := by
  have el := pair_len pr
  have ss := args_slots (F := ⟨but (besides G H) b, b⟩) (H := H) (m := N.length - (as.length + 1)) pr
  have es : L2.start N (.ref b :: vs') = some (.ref b) :: (vs'.map some ++ List.replicate (N.length - (as.length + 1)) none) := by
    unfold L2.start
    rw [List.length_cons, el]
    rfl
  have nob : ∀ (j : Nat) (s : Slot), Γ0[j + 1]? = some s → s.isOw = false := fun j s e => by
    rw [hΓ] at e
    exact (ss j s (by simpa using e)).2
  refine ⟨?_, sg, fun c u e => (besides_some (but_some e).1).1, fun c u e _ => (besides_some (but_some e).1).2, fun i s e => ?_, fun i j s s' p ne e1 o1 e2 o2 => ?_, NsOk.no fun i s e => by
    rw [hΓ] at e
    cases i with
    | zero => simp at e; subst e; rfl
    | succ i => exact args_ns (by simpa using e)⟩
  · rw [hΓ, es]; simp [el]
  · rw [hΓ] at e
    rw [es]
    cases i with
    | zero =>
      simp at e
      subst e
      refine ⟨b, ho, by simp, gb, ?_, hb, ok, fun _ => rfl⟩
      show but (besides G H) b b = none
      unfold but; rw [if_pos rfl]
    | succ i =>
      have := (ss i s (by simpa using e)).1
      simpa using this
  · cases i with
    | zero => cases j with
      | zero => exact absurd rfl ne
      | succ j => rw [nob j s' e2] at o2; cases o2
    | succ i => rw [nob i s e1] at o1; cases o1
theorem but_keep {G G' H' : Hp} {b c : Addr} {u : HO} (sg : Same G H) (s1 : Same G G') (gh : Same G' H') (th : Same (but (besides G H) b) H') (nb : c ≠ b) (e : H c = some u) : H' c = some u := by
  cases g : G c with
  | none =>
    refine th c u ?_
    unfold but; rw [if_neg nb, besides_of g]; exact e
  | some z => rw [sg c z g] at e; cases e; exact gh c _ (s1 c _ g)
theorem body_B {t : Ty} {y : List Int} {o : Out (t.den × List Int)} {d : t.den × List Int} (hb : DSs X (riB X.K t) body Γ0 o) (ho : o.Rets) (hp : Pm1 X.K (.lst .int y) (.lst .int (o.val d).2) as (.fr t (o.val d).1) vs H Q E) (hΓ : Γ0 = .ow true (.lst .int y) :: (as.map Arg.slot ++ List.replicate (N.length - (as.length + 1)) .un) := by rfl) (hl : as.length + 1 ≤ N.length := by exact Nat.le_of_ble_eq_true rfl) :
    WPSs X body { nx := fun _ H' => Q .non H', rt := Q } (L2.start N vs) H := by
  obtain ⟨G, b, ho, vs', rfl, sg, gb, hb', ok, pr, k⟩ := hp
  have W0 := box_start (N := N) sg gb hb' ok pr hΓ hl
  refine hb _ G _ H W0 _ (out_end (d := d) ‹_› fun v σ G' H' s1 r => ?_)
  obtain ⟨⟨Γ, W, h0⟩, r⟩ := r
  obtain ⟨a, ha, e1, e2, e3, e4, e5, e6⟩ := W.sl 0 _ h0
  have ab : a = b := e6 rfl
  subst ab
  refine k v G' H' ha s1 W.gh (fun c u nb e => but_keep sg s1 W.gh W.th nb e) e4 e5 (fun c u e hn n => ?_) r
  by_cases z : c = a
  · subst z; exact e2
  · refine W.tg c u ?_ hn
    show but (besides G H) a c = some u
    unfold but; rw [if_neg z, besides_of n]; exact e
theorem body_OB {t : Ty} {y : List Int} {o : Out (List t.den × List Int)} {d : List t.den × List Int} (hb : DSs X (riOB X.K t) body Γ0 o) (ho : o.Rets) (hp : Pm1 X.K (.lst .int y) (.lst .int (o.val d).2) as (.ow (.lst t (o.val d).1)) vs H Q E) (hΓ : Γ0 = .ow true (.lst .int y) :: (as.map Arg.slot ++ List.replicate (N.length - (as.length + 1)) .un) := by rfl) (hl : as.length + 1 ≤ N.length := by exact Nat.le_of_ble_eq_true rfl) :
    WPSs X body { nx := fun _ H' => Q .non H', rt := Q } (L2.start N vs) H := by
  obtain ⟨G, b, ho, vs', rfl, sg, gb, hb', ok, pr, k⟩ := hp
  have W0 := box_start (N := N) sg gb hb' ok pr hΓ hl
  refine hb _ G _ H W0 _ (out_end (d := d) ‹_› fun v σ G' H' s1 r => ?_)
  obtain ⟨p, hop, rfl, hT, okp, Γ, W, h0⟩ := r
  have Wd0 := W.drop hT
  have hd0 := W.held
  have hd : H' p = some hop ∧ G' p = none := ⟨hd0.1, hd0.2 (own_nt okp)⟩
  obtain ⟨a, ha, e1, e2, e3, e4, e5, e6⟩ := W.sl 0 _ h0
  have ab : a = b := e6 rfl
  subst ab
  have pa : p ≠ a := fun z => by
    subst z
    have e3' : upd (but (besides G H) p) p hop p = none := e3
    rw [upd_same] at e3'; cases e3'
  have pn : H p = none := by
    have hT' : but (besides G H) a p = none := hT
    unfold but at hT'
    rw [if_neg pa] at hT'
    cases g : G p with
    | none => rw [besides_of g] at hT'; exact hT'
    | some z => rw [s1 p z g] at hd; cases hd.2
  refine k (.ref p) G' H' ha s1 W.gh (fun c u nb e => but_keep sg s1 W.gh Wd0.th nb e) e4 e5 (fun c u e hn n => ?_) ⟨p, hop, rfl, pn, hd.2, hd.1, okp⟩
  by_cases z : c = a
  · subst z; exact e2
  · refine Wd0.tg c u ?_ hn
    show but (besides G H) a c = some u
    unfold but; rw [if_neg z, besides_of n]; exact e
end
end Dn

set_option Elab.async false
set_option linter.all false
set_option maxRecDepth 100000
set_option maxHeartbeats 1000000
/-! Dn, part 6: what is walked; for, while, comprehensions. -/
namespace Dn
open PySem PySem.Spec PyProof.Rows L2 TL

/-! ### targets -/
def WPG (X : Cx) (tg : Expr) : TG := fun v σ H Q => ∀ (pins : List (Addr × Obj)) (s : Shared) (u : Value), Inv X pins σ H s → RelV v u → wpAny (model X.prog X.w) X.A (assign tg X.env u) (fun _ s' => ∃ σ' H', Inv X pins σ' H' s' ∧ Q σ' H') X.xe s
theorem pg_wp {X : Cx} {tg : Expr} : PG X tg (WPG X tg) := ⟨fun pins s σ H v u Q I r h => h pins s u I r⟩
theorem wpg_of {X : Cx} {tg : Expr} {g : TG} {v : V} {σ : L2.St} {H : Hp} {Q : L2.St → Hp → Prop} (p : PG X tg g) (h : g v σ H Q) : WPG X tg v σ H Q := fun pins s u I r => p.run pins s σ H v u Q I r h
/-- σ' is σ but at the places tgs -/
def At' (tgs : List Nat) (σ σ' : L2.St) : Prop := σ'.length = σ.length ∧ ∀ i, i ∉ tgs → σ'[i]? = σ[i]?
theorem at_refl {tgs : List Nat} {σ : L2.St} : At' tgs σ σ := ⟨rfl, fun _ _ => rfl⟩
theorem at_set {i : Nat} {v : Option V} {σ : L2.St} : At' [i] σ (σ.set i v) := ⟨by simp, fun j h => by
  have : i ≠ j := fun z => h (by simp [z])
  rw [List.getElem?_set_ne this]⟩
theorem at_trans {a b : List Nat} {σ σ1 σ2 : L2.St} (h1 : At' a σ σ1) (h2 : At' b σ1 σ2) : At' (a ++ b) σ σ2 := ⟨h2.1.trans h1.1, fun i h => by
  rw [List.mem_append, not_or] at h
  exact (h2.2 i h.2).trans (h1.2 i h.1)⟩
/-- a target takes a thing of type t -/
def EvG (K : PySem.W.Frag) (g : TG) (t : Ty) (B : t.den → List Slot → List Slot) (tgs : List Nat) : Prop :=
  ∀ (F : Fx) (G : Hp) (σ : L2.St) (H : Hp) (Γ : List Slot) (v : V) (x : t.den), Wd K F G σ H Γ → Rep K t G v x → ∀ Q : L2.St → Hp → Prop, (∀ σ', At' tgs σ σ' → Wd K F G σ' H (B x Γ) → Q σ' H) → g v σ H Q
/-- .. several things, one after another -/
def EvGs (K : PySem.W.Frag) (g : TGs) : (ts : List Ty) → (tgs : List Nat) → Prop := fun ts tgs => ts.length = tgs.length ∧
  ∀ (F : Fx) (G : Hp) (σ : L2.St) (H : Hp) (Γ : List Slot) (vs : List V) (as : List Arg), Wd K F G σ H Γ → Paired (ArgF K G) vs as → as.map (fun a => match a with | .fr t _ => some t | _ => none) = ts.map some → ∀ Q : L2.St → Hp → Prop,
    (∀ σ', At' tgs σ σ' → Wd K F G σ' H ((tgs.zip as).foldl (fun Γ p => Γ.set p.1 p.2.slot) Γ) → Q σ' H) → g vs σ H Q
section
variable {X : Cx} {pos : Pos} {n : Str} {es : List Expr} {t A B C D : Ty}
theorem eg_name (i : Nat) (t : Ty) : EvG X.K (gName i) t (fun x Γ => Γ.set i (.fr t x)) [i] := fun F G σ H Γ v x W r Q q => q _ at_set (W.setFr r)
theorem egs_nil : EvGs X.K gNil [] [] := ⟨rfl, fun F G σ H Γ vs as W p e Q q => by
  cases as with
  | nil => cases p; exact ⟨rfl, q σ at_refl W⟩
  | cons a r => cases e⟩
theorem egs_cons {g : TGs} {ts : List Ty} {tgs : List Nat} (i : Nat) (t : Ty) (h : EvGs X.K g ts tgs) : EvGs X.K (gCons (gName i) g) (t :: ts) (i :: tgs) := ⟨by simp [h.1], fun F G σ H Γ vs as W p e Q q => by
  cases p with
  | nil => cases e
  | @cons v a vs as r p =>
    simp only [List.map_cons, List.cons.injEq] at e
    cases a with
    | fr t' x =>
      refine ⟨v, vs, rfl, ?_⟩
      exact h.2 F G _ H _ vs as (W.setFr r) p e.2 Q fun σ' a' W' => q σ' (by simpa using at_trans at_set a') W'
    | _ => exact False.elim r⟩
theorem eg_2 (i j : Nat) (A B : Ty) : EvG X.K (gTup X.K 2 (gCons (gName i) (gCons (gName j) gNil))) (.p2 A B) (fun x Γ => (Γ.set i (.fr A x.1)).set j (.fr B x.2)) [i, j] := fun F G σ H Γ v x W r Q q => by
  obtain ⟨p, v1, v2, rfl, h1, h2, h3⟩ := r
  refine ⟨p, [v1, v2], rfl, sqt_mono W.gh (tT h1), rfl, ?_⟩
  exact (egs_cons i A (egs_cons j B egs_nil)).2 F G σ H Γ [v1, v2] [.fr A x.1, .fr B x.2] W (.cons h2 (.cons h3 .nil)) rfl Q q
theorem eg_3 (i j k : Nat) (A B C : Ty) : EvG X.K (gTup X.K 3 (gCons (gName i) (gCons (gName j) (gCons (gName k) gNil)))) (.p3 A B C) (fun x Γ => ((Γ.set i (.fr A x.1)).set j (.fr B x.2.1)).set k (.fr C x.2.2)) [i, j, k] := fun F G σ H Γ v x W r Q q => by
  obtain ⟨p, v1, v2, v3, rfl, h1, h2, h3, h4⟩ := r
  refine ⟨p, [v1, v2, v3], rfl, sqt_mono W.gh (tT h1), rfl, ?_⟩
  exact (egs_cons i A (egs_cons j B (egs_cons k C egs_nil))).2 F G σ H Γ [v1, v2, v3] [.fr A x.1, .fr B x.2.1, .fr C x.2.2] W (.cons h2 (.cons h3 (.cons h4 .nil))) rfl Q q
theorem eg_4 (i j k l : Nat) (A B C D : Ty) : EvG X.K (gTup X.K 4 (gCons (gName i) (gCons (gName j) (gCons (gName k) (gCons (gName l) gNil))))) (.p4 A B C D) (fun x Γ => (((Γ.set i (.fr A x.1)).set j (.fr B x.2.1)).set k (.fr C x.2.2.1)).set l (.fr D x.2.2.2)) [i, j, k, l] := fun F G σ H Γ v x W r Q q => by
  obtain ⟨p, v1, v2, v3, v4, rfl, h1, h2, h3, h4, h5⟩ := r
  refine ⟨p, [v1, v2, v3, v4], rfl, sqt_mono W.gh h1, rfl, ?_⟩
  exact (egs_cons i A (egs_cons j B (egs_cons k C (egs_cons l D egs_nil)))).2 F G σ H Γ [v1, v2, v3, v4] [.fr A x.1, .fr B x.2.1, .fr C x.2.2.1, .fr D x.2.2.2] W (.cons h2 (.cons h3 (.cons h4 (.cons h5 .nil)))) rfl Q q
end

/-! ### what is walked -/
structure ItOk (K : PySem.W.Frag) (J : It) (g : TG) (G : Hp) {α : Type} (ys : List α) (B : α → List Slot → List Slot) (tgs : List Nat) : Prop where
  go : ∀ i G2 H2, Same G G2 → Same G2 H2 → i < ys.length → J.go i H2
  stop : ∀ G2 H2, Same G G2 → Same G2 H2 → J.stop ys.length H2
  yld : ∀ (F : Fx) i y G2 σ2 H2 Γ2 v H3 (Q : L2.St → Hp → Prop), Same G G2 → Wd K F G2 σ2 H2 Γ2 → ys[i]? = some y → J.yld i H2 v H3 → (∀ G3 σ3 H4, Same G2 G3 → At' tgs σ2 σ3 → Wd K F G3 σ3 H4 (B y Γ2) → Q σ3 H4) → g v σ2 H3 Q
def EvI (K : PySem.W.Frag) (wi : TI) (g : TG) (Γ : List Slot) {α : Type} (ys : List α) (B : α → List Slot → List Slot) (tgs : List Nat) (Γ' : List Slot) : Prop :=
  ∀ (F : Fx) (G : Hp) (σ : L2.St) (H : Hp), Wd K F G σ H Γ → ∀ R : It → Hp → Prop, (∀ J G' H', Same G G' → Wd K F G' σ H' Γ' → ItOk K J g G' ys B tgs → R J H') → wi σ H R
def WPI (X : Cx) (tg iter : Expr) : TI := fun σ H R => ∀ (pins : List (Addr × Obj)) (s : Shared), Inv X pins σ H s → wpAny (model X.prog X.w) X.A (eval iter X.env) (fun v s1 => wpAny (model X.prog X.w) X.A (pyIter v) (PIE X pins σ tg R) X.xe s1) X.xe s
theorem pi_wp {X : Cx} {tg iter : Expr} : PI X tg iter (WPI X tg iter) := ⟨fun pins s σ H R I h => h pins s I⟩
theorem wpi_of {X : Cx} {tg iter : Expr} {wi : TI} {σ : L2.St} {H : Hp} {R : It → Hp → Prop} (p : PI X tg iter wi) (h : wi σ H R) : WPI X tg iter σ H R := fun pins s I => p.run pins s σ H R I h
/-- the for's head: source, target (its form g), the items, what each brings -/
abbrev DI (X : Cx) (tg iter : Expr) (g : TG) (Γ : List Slot) {α : Type} (ys : List α) (B : α → List Slot → List Slot) (tgs : List Nat) (Γ' : List Slot) : Prop := EvI X.K (WPI X tg iter) g Γ ys B tgs Γ'
/-- lo, lo + 1, .. -/
@[irreducible] def rng (lo hi : Int) : List Int := (List.range (hi - lo).toNat).map fun (k : Nat) => lo + (k : Int)
theorem rng_len {lo hi : Int} : (rng lo hi).length = (hi - lo).toNat := by simp [rng]
theorem rng_get {lo hi : Int} {i : Nat} {y : Int} (h : (rng lo hi)[i]? = some y) : y = lo + (i : Int) := by
  unfold rng at h
  rw [List.getElem?_map] at h
  cases e : (List.range (hi - lo).toNat)[i]? with
  | none => rw [e] at h; cases h
  | some k =>
    rw [e] at h
    have := List.getElem?_range (n := (hi - lo).toNat) (i := i) (by have := (List.getElem?_eq_some_iff.mp e).1; simpa using this)
    rw [this] at e; cases e
    exact (Option.some.inj h).symm
@[irreducible] def chars (x : List Nat) : List (List Nat) := x.map fun c => [c]
section
variable {X : Cx} {tg e a b : Expr} {pos p tpos : Pos} {Γ Γ1 Γ2 : List Slot} {t : Ty} {xs : List t.den} {g : TG} {B : t.den → List Slot → List Slot} {tgs : List Nat}
theorem di_list (he : DE X e Γ (.lst t) xs Γ1) (hg : EvG X.K g t B tgs) : DI X tg e g Γ xs B tgs Γ1 := fun F G σ H W R q =>
  wpi_of (pi_list pe_wp) (he F G σ H W _ fun v G' H' s W' r => by
    obtain ⟨a, vs, rfl, h1, h2⟩ := r
    have el := pair_len h2
    refine ⟨a, rfl, ⟨vs, .inl (rd_mono W'.gh h1)⟩, q _ G' H' s W' ⟨fun i G2 H2 s1 s2 hi => ?_, fun G2 H2 s1 s2 => ⟨vs, (.inl (rd_mono (s1.trans s2) h1)), Nat.le_of_eq el⟩, fun F i y G2 σ2 H2 Γ2 v H3 Q s1 W2 hy y' k => ?_⟩⟩
    · exact ⟨vs, vs[i]'(by omega), (.inl (rd_mono (s1.trans s2) h1)), List.getElem?_eq_getElem (by omega)⟩
    · obtain ⟨e1, e2⟩ := y'
      subst e1
      have e3 := e2 vs (.inl (rd_mono (s1.trans W2.gh) h1))
      obtain ⟨v', e4, e5⟩ := pair_get h2 hy
      rw [e3] at e4; cases e4
      exact hg F G2 σ2 _ Γ2 v y W2 (rep_mono s1 t v y e5) Q fun σ' a' W3 => k G2 σ' _ (Same.refl G2) a' W3)
theorem di_tup (he : DE X e Γ (.tup t) xs Γ1) (hg : EvG X.K g t B tgs) : DI X tg e g Γ xs B tgs Γ1 := fun F G σ H W R q =>
  wpi_of (pi_tup pe_wp) (he F G σ H W _ fun v G' H' s W' r => by
    obtain ⟨a, vs, rfl, h1, h2⟩ := r
    have h1 := h1.t (K := X.K)
    have el := pair_len h2
    refine ⟨a, rfl, ⟨vs, sqt_mono W'.gh h1⟩, q _ G' H' s W' ⟨fun i G2 H2 s1 s2 hi => ?_, fun G2 H2 s1 s2 => ⟨vs, sqt_mono (s1.trans s2) h1, Nat.le_of_eq el⟩, fun F i y G2 σ2 H2 Γ2 v H3 Q s1 W2 hy y' k => ?_⟩⟩
    · exact ⟨vs, vs[i]'(by omega), sqt_mono (s1.trans s2) h1, List.getElem?_eq_getElem (by omega)⟩
    · obtain ⟨e1, e2⟩ := y'
      subst e1
      have e3 := e2 vs (sqt_mono (s1.trans W2.gh) h1)
      obtain ⟨v', e4, e5⟩ := pair_get h2 hy
      rw [e3] at e4; cases e4
      exact hg F G2 σ2 _ Γ2 v y W2 (rep_mono s1 t v y e5) Q fun σ' a' W3 => k G2 σ' _ (Same.refl G2) a' W3)
theorem di_str {x : List Nat} {B : List Nat → List Slot → List Slot} (he : DE X e Γ .str x Γ1) (hg : EvG X.K g .str B tgs) : DI X tg e g Γ (chars x) B tgs Γ1 := fun F G σ H W R q =>
  wpi_of (pi_str pe_wp) (he F G σ H W _ fun v G' H' s W' r => by
    refine ⟨⟨x.toArray⟩, r, q _ G' H' s W' ⟨fun i G2 H2 s1 s2 hi => ?_, fun G2 H2 s1 s2 => ?_, fun F i y G2 σ2 H2 Γ2 v H3 Q s1 W2 hy y' k => ?_⟩⟩
    · have : i < x.length := by simpa [chars] using hi
      show i < (x.toArray).size
      simpa using this
    · show (x.toArray).size ≤ _
      simp [chars]
    · obtain ⟨e1, c, e2, e3⟩ := y'
      subst e1 e3
      have e2' : x[i]? = some c := by simpa using e2
      unfold chars at hy
      rw [List.getElem?_map, e2'] at hy
      cases hy
      exact hg F G2 σ2 _ Γ2 (.str ⟨#[c]⟩) [c] W2 rfl Q fun σ' a' W3 => k G2 σ' _ (Same.refl G2) a' W3)
/-- range's ends -/
def RngOk (i : Int) : Prop := -1000000 ≤ i ∧ i ≤ 1000000
theorem it_range {K : PySem.W.Frag} {lo hi : Int} {G : Hp} {B : Int → List Slot → List Slot} (hg : EvG K g .int B tgs) : ItOk K (Itr lo (hi - lo).toNat) g G (rng lo hi) B tgs where
  go := fun i G2 H2 _ _ h => by rw [rng_len] at h; exact h
  stop := fun G2 H2 _ _ => by rw [rng_len]; exact Nat.le_refl _
  yld := fun F i y G2 σ2 H2 Γ2 v H3 Q s1 W2 hy y' k => by
    obtain ⟨e1, e2⟩ := y'
    subst e1
    have := rng_get hy
    subst this
    subst e2
    exact hg F G2 σ2 _ Γ2 _ _ W2 rfl Q fun σ' a' W3 => k G2 σ' _ (Same.refl G2) a' W3
theorem di_range1 {n : Int} {B : Int → List Slot → List Slot} (hm : X.mg "range" = none) (h : RngOk n) (ha : DE X a Γ .int n Γ1) (hg : EvG X.K g .int B tgs) (hgl : Gl X "range" := by rfl) (hs : starEach [a] X.env = [(false, eval a X.env)] := by rfl) :
    DI X tg (.Call (.Name "range" p) [a] [] pos) g Γ (rng 0 n) B tgs Γ1 := fun F G σ H W R q =>
  wpi_of (pi_range1 hgl hm pa_wp hs) ((da_cons ha da_nil (by rw [hs]; rfl)) F G σ H W _ fun vs G' H' s W' r => by
    cases r with
    | @cons v _ _ _ r r' =>
      cases r'
      have r : v = .int n := r
      subst r
      obtain ⟨h1, h2⟩ := h
      refine ⟨n, rfl, by omega, by omega, ?_⟩
      have := q (Itr 0 (n - 0).toNat) G' H' s W' (it_range hg)
      simpa using this)
theorem di_range2 {lo hi : Int} {B : Int → List Slot → List Slot} (hm : X.mg "range" = none) (h : RngOk lo ∧ RngOk hi) (ha : DE X a Γ .int lo Γ1) (hb : DE X b Γ1 .int hi Γ2) (hg : EvG X.K g .int B tgs) (hgl : Gl X "range" := by rfl) (hs : starEach [a, b] X.env = [(false, eval a X.env), (false, eval b X.env)] := by rfl) (hs2 : starEach [b] X.env = [(false, eval b X.env)] := by rfl) :
    DI X tg (.Call (.Name "range" p) [a, b] [] pos) g Γ (rng lo hi) B tgs Γ2 := fun F G σ H W R q =>
  wpi_of (pi_range2 hgl hm pa_wp hs hs2) ((da_cons ha (da_cons hb da_nil (by rw [hs2]; rfl)) (by rw [hs, hs2])) F G σ H W _ fun vs G' H' s W' r => by
    cases r with
    | @cons v _ _ _ r r' =>
      cases r' with
      | @cons w _ _ _ r2 r' =>
        cases r'
        have r : v = .int lo := r
        have r2 : w = .int hi := r2
        subst r r2
        obtain ⟨⟨h1, h2⟩, h3, h4⟩ := h
        exact ⟨lo, hi, rfl, ⟨by omega, by omega, by omega, by omega⟩, q _ G' H' s W' (it_range hg)⟩)
/-- enumerate(xs), xs a list -/
def enum {α : Type} (xs : List α) : List (Int × α) := xs.zipIdx.map fun p => ((p.2 : Int), p.1)
theorem enum_get {α : Type} {xs : List α} {i : Nat} {y : Int × α} (h : (enum xs)[i]? = some y) : y.1 = (i : Int) ∧ xs[i]? = some y.2 := by
  unfold enum at h
  rw [List.getElem?_map, List.getElem?_zipIdx] at h
  cases e : xs[i]? with
  | none => rw [e] at h; cases h
  | some x => rw [e] at h; cases h; simp
theorem enum_len {α : Type} {xs : List α} : (enum xs).length = xs.length := by simp [enum]
theorem di_enumL {elts : List Expr} {kk : Nat} {B : Int × t.den → List Slot → List Slot} (hm : X.mg "enumerate" = none) (he : DE X e Γ (.lst t) xs Γ1) (hg : EvG X.K g (.p2 .int t) B tgs) (hgl : Gl X "enumerate" := by rfl) (hs : starEach [e] X.env = [(false, eval e X.env)] := by rfl) :
    DI X (.Tuple elts kk tpos) (.Call (.Name "enumerate" p) [e] [] pos) g Γ (enum xs) B tgs Γ1 := fun F G σ H W R q =>
  wpi_of (pi_enum hgl hm pa_wp hs) ((da_cons he da_nil (by rw [hs]; rfl)) F G σ H W _ fun vs G' H' s W' r => by
    cases r with
    | @cons v _ _ _ r r' =>
      cases r'
      obtain ⟨a, vs, rfl, h1, h2⟩ := r
      have el := pair_len h2
      refine ⟨a, vs, rfl, .inl (rd_mono W'.gh h1), q _ G' H' s W' ⟨fun i G2 H2 s1 s2 hi => ?_, fun G2 H2 s1 s2 => ⟨vs, (.inl (rd_mono (s1.trans s2) h1)), by rw [enum_len]; exact Nat.le_of_eq el⟩, fun F i y G2 σ2 H2 Γ2 v H3 Q s1 W2 hy y' k => ?_⟩⟩
      · rw [enum_len] at hi
        exact ⟨vs, vs[i]'(by omega), (.inl (rd_mono (s1.trans s2) h1)), List.getElem?_eq_getElem (by omega)⟩
      · obtain ⟨T, x, rfl, nT, rfl, e2⟩ := y'
        have e3 := e2 vs (.inl (rd_mono (s1.trans W2.gh) h1))
        obtain ⟨y1, y2⟩ := y
        obtain ⟨f1, f2⟩ := enum_get hy
        simp only at f1 f2
        subst f1
        obtain ⟨v', e4, e5⟩ := pair_get h2 f2
        rw [e3] at e4; cases e4
        have sm := same_upd (o := .tup [.int (i : Nat), x]) (W2.gn nT)
        exact hg F _ σ2 _ Γ2 (.ref T) ((i : Int), y2) (W2.newG nT) ⟨T, _, x, rfl, upd_same, rfl, rep_mono (s1.trans sm) t x y2 e5⟩ Q fun σ' a' W3 => k _ σ' _ sm a' W3)
end

/-! ### for -/
def AllF {S α : Type} (P : S → α → Prop) (f : S → α → S) : S → List α → Prop
  | _, [] => True
  | s, y :: ys => P s y ∧ AllF P f (f s y) ys
def Lp.step {S ρ : Type} (r : Lp S ρ) (k : S → Lp S ρ) : Lp S ρ := match r with
  | .go s => k s
  | .stop s => .stop s
  | .ret x => .ret x
def Lp.onGo {S ρ : Type} (r : Lp S ρ) (k : S → Prop) : Prop := match r with
  | .go s => k s
  | _ => True
def loopL {S α ρ : Type} (f : S → α → Lp S ρ) : S → List α → Lp S ρ
  | s, [] => .go s
  | s, y :: ys => (f s y).step fun s' => loopL f s' ys
def AllL {S α ρ : Type} (P : S → α → Prop) (f : S → α → Lp S ρ) : S → List α → Prop
  | _, [] => True
  | s, y :: ys => P s y ∧ (f s y).onGo fun s' => AllL P f s' ys
def LpOk {S ρ : Type} (K : PySem.W.Frag) (R : RI ρ) (F : Fx) (D : Ends) (Γs : S → List Slot) (G : Hp) : Lp S ρ → Prop
  | .go s => (∀ σ G' H, Same G G' → Wd K F G' σ H (Γs s) → D.nx σ H) ∧ ∀ σ G' H, Same G G' → Wd K F G' σ H (Γs s) → D.ct σ H
  | .stop s => ∀ σ G' H, Same G G' → Wd K F G' σ H (Γs s) → D.bk σ H
  | .ret x => ∀ v σ G' H, Same G G' → R F G' σ H v x → D.rt v H
/-- how a turn ends -/
def Turns {S ρ : Type} (K : PySem.W.Frag) (R : RI ρ) (Γs : S → List Slot) (o : Out ρ) (r : Lp S ρ) : Prop := ∀ (F : Fx) (D : Ends) (G : Hp), LpOk K R F D Γs G r → OutOk K R F D G o
def Lp.then {S S' ρ : Type} (r : Lp S ρ) (k : S → Lp S' ρ) : Lp S' ρ := match r with
  | .go s => k s
  | .stop s => k s
  | .ret x => .ret x
section
variable {K : PySem.W.Frag} {S ρ : Type} {R : RI ρ} {Γs : S → List Slot} {o o1 o2 : Out ρ} {s s1 s2 : S} {r1 r2 : Lp S ρ} {Γ : List Slot}
theorem tn_nx (h : Ent K Γ (Γs s)) : Turns K R Γs (.nx Γ) (.go s) := fun F D G q σ G' H sg W => by
  obtain ⟨G2, e, W2⟩ := h F G' σ H W
  exact q.1 σ G2 H (sg.trans e) W2
theorem tn_ct (h : Ent K Γ (Γs s)) : Turns K R Γs (.ct Γ) (.go s) := fun F D G q σ G' H sg W => by
  obtain ⟨G2, e, W2⟩ := h F G' σ H W
  exact q.2 σ G2 H (sg.trans e) W2
theorem tn_bk (h : Ent K Γ (Γs s)) : Turns K R Γs (.bk Γ) (.stop s) := fun F D G q σ G' H sg W => by
  obtain ⟨G2, e, W2⟩ := h F G' σ H W
  exact q σ G2 H (sg.trans e) W2
theorem tn_rt {x : ρ} : Turns K R Γs (.rt x) (.ret x) := fun F D G q => q
theorem tn_br {b : Bool} (h1 : b = true → Turns K R Γs o1 r1) (h2 : b = false → Turns K R Γs o2 r2) : Turns K R Γs (.br b o1 o2) (bif b then r1 else r2) := fun F D G q =>
  ⟨fun hb => by subst hb; exact h1 rfl F D G q, fun hb => by subst hb; exact h2 rfl F D G q⟩
theorem tn_brG {b : Bool} (h1 : b = true → Turns K R Γs o1 (.go s1)) (h2 : b = false → Turns K R Γs o2 (.go s2)) : Turns K R Γs (.br b o1 o2) (.go (bif b then s1 else s2)) := fun F D G q =>
  ⟨fun hb => by subst hb; exact h1 rfl F D G q, fun hb => by subst hb; exact h2 rfl F D G q⟩
theorem tn_lp {S' : Type} {r : Lp S' ρ} {k : S' → Out ρ} {k' : S' → Lp S ρ} (h : ∀ s, Turns K R Γs (k s) (k' s)) : Turns K R Γs (.lp r k) (r.then k') := fun F D G q => by
  cases r with
  | go s => exact h s F D G q
  | stop s => exact h s F D G q
  | ret x => exact q
end
section
variable {X : Cx} {ρ S α : Type} {R : RI ρ} {tg iter : Expr} {g : TG} {body : List Stmt} {pos : Pos} {Γ Γ1 : List Slot} {ys : List α} {B : α → List Slot → List Slot} {tgs : List Nat} {P : S → α → Prop}
theorem ds_forL (Γs : S → List Slot) {s0 : S} {f : S → α → Lp S ρ} (hi : DI X tg iter g Γ ys B tgs Γ1) (h0 : Ent X.K Γ1 (Γs s0)) (hP : AllL P f s0 ys)
    (hb : ∀ s y, P s y → ∃ o, DSs X R body (B y (Γs s)) o ∧ Turns X.K R Γs o (f s y)) (hg : PG X tg g) (hp : PassesOwn (model X.prog X.w) X.A X.env X.xe) (hc : X.calm = true := by rfl) (hs : ∀ x, foldedSetIterable iter X.env x = pure x := by intro _; rfl) :
    DS X R (.For tg iter body [] pos) Γ (.lp (loopL f s0 ys) fun s => .nx (Γs s)) := fun F G σ H W D q =>
  wps_of (ps_for hp hc pi_wp hg pss_wp hs) (hi F G σ H W _ fun J G1 H1 sg1 W1 it => by
    obtain ⟨G2, e2, W2⟩ := h0 F G1 σ H1 W1
    -- the word: what is left to take, and the end that it comes to
    refine ⟨fun i m σ' H' => m = ys.length - i ∧ i ≤ ys.length ∧ ∃ (G' : Hp) (s : S), Same G2 G' ∧ Wd X.K F G' σ' H' (Γs s) ∧ AllL P f s (ys.drop i) ∧ loopL f s0 ys = loopL f s (ys.drop i), ⟨ys.length, by omega, by omega, G2, s0, Same.refl _, W2, hP, rfl⟩, ?_⟩
    rintro i m σ' H' ⟨rfl, hi', G', s, sg', W', hA, hE⟩
    have sG : Same G G' := (sg1.trans e2).trans sg'
    by_cases hl : i < ys.length
    · refine .inr ⟨it.go i G' H' (e2.trans sg') W'.gh hl, ?_⟩
      have hd : ys.drop i = ys[i] :: ys.drop (i + 1) := List.drop_eq_getElem_cons hl
      rw [hd] at hA hE
      obtain ⟨o, ho, ht⟩ := hb s ys[i] hA.1
      have hA2 := hA.2
      have hE2 : loopL f s0 ys = (f s ys[i]).step fun s' => loopL f s' (ys.drop (i + 1)) := hE.trans (by rw [loopL])
      refine ⟨fun σ3 H3 => ∃ (G3 : Hp) (s' : S), Same G2 G3 ∧ Wd X.K F G3 σ3 H3 (Γs s') ∧ AllL P f s' (ys.drop (i + 1)) ∧ loopL f s0 ys = loopL f s' (ys.drop (i + 1)), fun σ3 H3 ⟨G3, s', a1, a2, a3, a4⟩ => ⟨ys.length - (i + 1), by omega, rfl, hl, G3, s', a1, a2, a3, a4⟩, fun v H3 y => ?_⟩
      refine it.yld F i ys[i] G' σ' H' (Γs s) v H3 _ (e2.trans sg') W' (List.getElem?_eq_getElem hl) y fun G3 σ3 H4 sg3 at3 W3 => ?_
      refine ho F G3 σ3 H4 W3 _ (ht F _ G3 ?_)
      cases hr : f s ys[i] with
      | go s' =>
        rw [hr] at hA2 hE2
        exact ⟨fun σ5 G5 H5 sg5 W5 => ⟨G5, s', (sg'.trans sg3).trans sg5, W5, hA2, hE2⟩, fun σ5 G5 H5 sg5 W5 => ⟨G5, s', (sg'.trans sg3).trans sg5, W5, hA2, hE2⟩⟩
      | stop s' =>
        rw [hr] at hE2
        intro σ5 G5 H5 sg5 W5
        rw [hE2] at q
        exact q σ5 G5 H5 ((sG.trans sg3).trans sg5) W5
      | ret x =>
        rw [hr] at hE2
        intro v5 σ5 G5 H5 sg5 r5
        rw [hE2] at q
        exact q v5 σ5 G5 H5 ((sG.trans sg3).trans sg5) r5
    · have e : i = ys.length := by omega
      subst e
      rw [List.drop_length] at hE
      refine .inl ⟨it.stop G' H' (e2.trans sg') W'.gh, ?_⟩
      rw [hE] at q
      exact q σ' G' H' sG W')
theorem loopL_fold {f : S → α → S} : ∀ {s : S} {ys : List α}, loopL (fun s y => (Lp.go (f s y) : Lp S ρ)) s ys = .go (ys.foldl f s)
  | s, [] => rfl
  | s, y :: ys => by
    show loopL (fun s y => (Lp.go (f s y) : Lp S ρ)) (f s y) ys = _
    rw [loopL_fold]
    rfl
theorem allL_of {f : S → α → S} : ∀ {s : S} {ys : List α}, AllF P f s ys → AllL P (fun s y => (Lp.go (f s y) : Lp S ρ)) s ys
  | _, [], _ => trivial
  | _, _ :: _, h => ⟨h.1, allL_of h.2⟩
theorem ds_for (Γs : S → List Slot) {s0 : S} {f : S → α → S} (hi : DI X tg iter g Γ ys B tgs Γ1) (h0 : Ent X.K Γ1 (Γs s0)) (hP : AllF P f s0 ys)
    (hb : ∀ s y, P s y → ∃ o, DSs X R body (B y (Γs s)) o ∧ Turns X.K R Γs o (.go (f s y))) (hg : PG X tg g) (hp : PassesOwn (model X.prog X.w) X.A X.env X.xe) (hc : X.calm = true := by rfl) (hs : ∀ x, foldedSetIterable iter X.env x = pure x := by intro _; rfl) :
    DS X R (.For tg iter body [] pos) Γ (.nx (Γs (ys.foldl f s0))) := fun F G σ H W D q =>
  ds_forL Γs hi h0 (allL_of hP) hb hg hp hc hs F G σ H W D (by rw [loopL_fold]; exact q)
end

/-! ### while -/
def whileN {S : Type} (c : S → Bool) (f : S → S) : Nat → S → S
  | 0, s => s
  | n + 1, s => bif c s then whileN c f n (f s) else s
/-- within n turns it ends; Pc, P: what the test and the body ask -/
def OkW {S : Type} (Pc P : S → Prop) (c : S → Bool) (f : S → S) : Nat → S → Prop
  | 0, s => Pc s ∧ c s = false
  | n + 1, s => Pc s ∧ (c s = true → P s ∧ OkW Pc P c f n (f s))
section
variable {X : Cx} {ρ S : Type} {R : RI ρ} {tc : Expr} {body : List Stmt} {pos : Pos} {Γ Γ1 : List Slot} {Pc P : S → Prop}
theorem ds_while (Γs : S → List Slot) {s0 : S} {c : S → Bool} {f : S → S} {n : Nat} (h0 : Ent X.K Γ (Γs s0)) (hP : OkW Pc P c f n s0) (hc : ∀ s, Pc s → DT X tc (Γs s) (c s) (Γs s))
    (hb : ∀ s, P s → c s = true → ∃ o, DSs X R body (Γs s) o ∧ Turns X.K R Γs o (.go (f s))) (hp : PassesOwn (model X.prog X.w) X.A X.env X.xe) : DS X R (.While tc body [] pos) Γ (.nx (Γs (whileN c f n s0))) := fun F G σ H W D q =>
  wps_of (ps_while hp pt_wp pss_wp) (by
    obtain ⟨G2, e2, W2⟩ := h0 F G σ H W
    refine ⟨fun m σ' H' => ∃ (G' : Hp) (s : S), Same G G' ∧ Wd X.K F G' σ' H' (Γs s) ∧ OkW Pc P c f m s ∧ whileN c f n s0 = whileN c f m s, ⟨n, G2, s0, e2, W2, hP, rfl⟩, ?_⟩
    rintro m σ' H' ⟨G', s, sg, W', hA, hE⟩
    have hPc : Pc s := by cases m with
      | zero => exact hA.1
      | succ m => exact hA.1
    refine hc s hPc F G' σ' H' W' _ fun G3 H3 sg3 W3 => ?_
    cases hcs : c s with
    | true =>
      rw [if_pos rfl]
      cases m with
      | zero => rw [hA.2] at hcs; cases hcs
      | succ m =>
        obtain ⟨hPs, hA2⟩ := hA.2 hcs
        have hE2 : whileN c f n s0 = whileN c f m (f s) := by
          rw [hE]
          show (bif c s then whileN c f m (f s) else s) = _
          rw [hcs]
          rfl
        obtain ⟨o, ho, ht⟩ := hb s hPs hcs
        refine ⟨fun σ4 H4 => ∃ G4, Same G G4 ∧ Wd X.K F G4 σ4 H4 (Γs (f s)), fun σ4 H4 ⟨G4, a1, a2⟩ => ⟨m, Nat.lt_succ_self m, G4, f s, a1, a2, hA2, hE2⟩, ?_⟩
        exact ho F G3 σ' H3 W3 _ (ht F _ G3 ⟨fun σ5 G5 H5 sg5 W5 => ⟨G5, (sg.trans sg3).trans sg5, W5⟩, fun σ5 G5 H5 sg5 W5 => ⟨G5, (sg.trans sg3).trans sg5, W5⟩⟩)
    | false =>
      rw [if_neg Bool.false_ne_true]
      have hE2 : whileN c f n s0 = s := by
        rw [hE]
        cases m with
        | zero => rfl
        | succ m =>
          show (bif c s then whileN c f m (f s) else s) = _
          rw [hcs]
          rfl
      rw [hE2] at q
      exact q σ' G3 H3 (sg.trans sg3) W3)
end
end Dn

set_option Elab.async false
set_option linter.all false
set_option maxRecDepth 100000
set_option maxHeartbeats 1000000
/-! Dn, part 7: comprehensions; built-ins; methods. -/
namespace Dn
open PySem PySem.Spec PyProof.Rows L2 TL

/-! ### comprehensions -/
def wipeS (Γ : List Slot) : List Nat → List Slot
  | [] => Γ
  | v :: vs => (wipeS Γ vs).set v .un
theorem wipe_get {σ : L2.St} : ∀ {vs : List Nat} {i : Nat}, (wipe σ vs)[i]? = if i ∈ vs ∧ i < σ.length then some none else σ[i]?
  | [], i => by simp [wipe]
  | v :: vs, i => by
    have hl : (wipe σ vs).length = σ.length := wipe_length σ vs
    unfold wipe
    by_cases hi : v = i
    · subst hi
      by_cases hv : v < σ.length
      · rw [List.getElem?_set_self (by rw [hl]; exact hv), if_pos ⟨by simp, hv⟩]
      · rw [List.getElem?_eq_none (by rw [List.length_set, hl]; omega), if_neg (fun z => hv z.2), List.getElem?_eq_none (by omega)]
    · rw [List.getElem?_set_ne hi, wipe_get]
      have e : (i ∈ v :: vs ∧ i < σ.length) ↔ (i ∈ vs ∧ i < σ.length) := by
        simp only [List.mem_cons]
        constructor
        · rintro ⟨h | h, l⟩
          · exact absurd h.symm hi
          · exact ⟨h, l⟩
        · exact fun h => ⟨.inr h.1, h.2⟩
      by_cases c : i ∈ vs ∧ i < σ.length
      · rw [if_pos c, if_pos (e.mpr c)]
      · rw [if_neg c, if_neg fun z => c (e.mp z)]
theorem wipe_back {σ σ' : L2.St} {vs tgs : List Nat} (a : At' tgs (wipe σ vs) σ') (h : ∀ i ∈ tgs, i ∈ vs) : wipe σ' vs = wipe σ vs := by
  have hl : σ'.length = σ.length := a.1.trans (wipe_length σ vs)
  apply List.ext_getElem?
  intro i
  rw [wipe_get, wipe_get, hl]
  by_cases c : i ∈ vs ∧ i < σ.length
  · rw [if_pos c, if_pos c]
  · rw [if_neg c, if_neg c]
    by_cases m : i ∈ tgs
    · have nl : ¬ i < σ.length := fun z => c ⟨h i m, z⟩
      rw [List.getElem?_eq_none (by omega), List.getElem?_eq_none (by omega)]
    · rw [a.2 i m, wipe_get, if_neg c]
theorem wipeS_len {Γ : List Slot} : ∀ {vs : List Nat}, (wipeS Γ vs).length = Γ.length
  | [] => rfl
  | v :: vs => by unfold wipeS; rw [List.length_set, wipeS_len]
theorem wipeS_in {Γ : List Slot} : ∀ {vs : List Nat} {i : Nat} {s : Slot}, wipeS Γ vs = Γ → Γ[i]? = some s → i ∈ vs → s = .un := by
  have key : ∀ {vs : List Nat} {i : Nat} {s : Slot}, (wipeS Γ vs)[i]? = some s → i ∈ vs → s = .un := by
    intro vs
    induction vs with
    | nil => intro i s _ h; cases h
    | cons v vs ih =>
      intro i s e h
      unfold wipeS at e
      by_cases hi : v = i
      · subst hi
        have hv : v < (wipeS Γ vs).length := by have := (List.getElem?_eq_some_iff.mp e).1; rwa [List.length_set] at this
        rw [List.getElem?_set_self hv] at e
        exact (Option.some.inj e).symm
      · rw [List.getElem?_set_ne hi] at e
        rcases List.mem_cons.mp h with z | z
        · exact absurd z.symm hi
        · exact ih e z
  intro vs i s hw e h
  rw [← hw] at e
  exact key e h
section
variable {K : PySem.W.Frag} {F : Fx} {G H : Hp} {σ σ' : L2.St} {Γ : List Slot} {vs : List Nat}
/-- slots that no word speaks of may differ -/
theorem Wd.other (W : Wd K F G σ H Γ) (hl : σ'.length = σ.length) (h : ∀ (i : Nat) (s : Slot), Γ[i]? = some s → s = .un ∨ σ'[i]? = σ[i]?) : Wd K F G σ' H Γ where
  len := hl.trans W.len
  gh := W.gh
  th := W.th
  tg := W.tg
  sl := fun i s e => by
    rcases h i s e with z | z
    · subst z; trivial
    · rw [z]; exact W.sl i s e
  dj := fun i j s s' p ne e1 o1 e2 o2 h1 h2 => by
    rcases h i s e1 with z | z
    · subst z; cases o1
    · rcases h j s' e2 with y | y
      · subst y; cases o2
      · exact W.dj i j s s' p ne e1 o1 e2 o2 (z ▸ h1) (y ▸ h2)
  ns := W.ns.go (fun j t x e => by
    rcases h j _ e with z | z
    · cases z
    · exact ⟨e, z⟩) (Same.refl G) fun a o q1 q2 q3 q4 => ⟨q1, q2, q3, fun j s e o => by
    rcases h j s e with z | z
    · subst z; cases o
    · rw [z]; exact q4 j s e o⟩
theorem Wd.wiped (W : Wd K F G σ H Γ) (hw : wipeS Γ vs = Γ) : Wd K F G (wipe σ vs) H Γ := W.other (wipe_length σ vs) fun i s e => by
  by_cases c : i ∈ vs
  · exact .inl (wipeS_in hw e c)
  · right; rw [wipe_get, if_neg fun z => c z.1]
theorem Wd.unwiped {tgs : List Nat} (W : Wd K F G σ' H Γ) (hw : wipeS Γ vs = Γ) (a : At' tgs (wipe σ vs) σ') (h : ∀ i ∈ tgs, i ∈ vs) : Wd K F G σ H Γ := W.other ((wipe_length σ vs).symm.trans a.1.symm) fun i s e => by
  by_cases c : i ∈ vs
  · exact .inl (wipeS_in hw e c)
  · right; rw [a.2 i fun z => c (h i z), wipe_get, if_neg fun z => c z.1]
/-- what is held aside is changed -/
theorem Wd.grow {p : Addr} {ho ho' : HO} (W : Wd K { F with T := upd F.T p ho } G σ H Γ) (hn0 : NT ho := by intro _ z; cases z) : Wd K { F with T := upd F.T p ho' } G σ (upd H p ho') Γ where
  len := W.len
  gh := fun b o e => by
    have ne : b ≠ p := ne_of_none e (W.held.2 hn0)
    rw [upd_ne ne]; exact W.gh b o e
  th := fun b o e => by
    change upd F.T p ho' b = some o at e
    by_cases hb : b = p
    · subst hb; rw [upd_same] at e ⊢; exact e
    · rw [upd_ne hb] at e ⊢; exact W.th b o (by show upd F.T p ho b = _; rw [upd_ne hb]; exact e)
  tg := fun b o e hn => by
    change upd F.T p ho' b = some o at e
    by_cases hb : b = p
    · subst hb; exact W.held.2 hn0
    · rw [upd_ne hb] at e; exact W.tg b o (by show upd F.T p ho b = _; rw [upd_ne hb]; exact e) hn
  sl := fun i s e => by
    have q := W.sl i s e
    cases s with
    | un => exact q
    | fr t x => exact q
    | mb t x => exact q
    | ow pin o =>
      obtain ⟨a, ho2, h1, h2, h3, h4, h5, h6⟩ := q
      change upd F.T p ho a = none at h3
      have ne : a ≠ p := fun z => by subst z; rw [upd_same] at h3; cases h3
      rw [upd_ne ne] at h3
      exact ⟨a, ho2, h1, h2, (by show upd F.T p ho' a = none; rw [upd_ne ne]; exact h3), by rw [upd_ne ne]; exact h4, h5, h6⟩
    | ns t x => trivial
  dj := W.dj
  ns := W.ns.go (fun _ _ _ e => ⟨e, rfl⟩) (Same.refl G) fun a o q1 q2 q3 q4 => by
    change upd F.T p ho a = none at q3
    have ne : a ≠ p := fun z => by subst z; rw [upd_same] at q3; cases q3
    rw [upd_ne ne] at q3
    exact ⟨by rw [upd_ne ne]; exact q1, q2, (by show upd F.T p ho' a = none; rw [upd_ne ne]; exact q3), q4⟩
end
/-- a turn: what is put in (if anything), the state behind -/
def lcF {S α β : Type} (f : S → α → Option β × S) : List β × S → α → List β × S := fun a y => match f a.2 y with
  | (some x, s) => (a.1 ++ [x], s)
  | (none, s) => (a.1, s)
def AllC {S α β : Type} (P : S → α → Prop) (f : S → α → Option β × S) : S → List α → Prop
  | _, [] => True
  | s, y :: ys => P s y ∧ AllC P f (f s y).2 ys
theorem lcF_snd {S α β : Type} {f : S → α → Option β × S} {a : List β × S} {y : α} : (lcF f a y).2 = (f a.2 y).2 := by
  unfold lcF
  rcases f a.2 y with ⟨_ | x, s⟩ <;> rfl
theorem lcF_len {S α β : Type} {f : S → α → Option β × S} {a : List β × S} {y : α} : (lcF f a y).1.length ≤ a.1.length + 1 := by
  unfold lcF
  rcases f a.2 y with ⟨_ | x, s⟩ <;> simp
def WPTs (X : Cx) (ifs : List Expr) : TT := fun σ H Q => ∀ (pins : List (Addr × Obj)) (s : Shared), Inv X pins σ H s →
    wpAny (model X.prog X.w) X.A (forIn ifs true fun c r => if r = true then do let ok ← isTrue c X.env (eval c X.env); pure (ForInStep.yield ok) else pure (ForInStep.yield r)) (TP X pins σ Q) X.xe s
theorem pts_wp {X : Cx} {ifs : List Expr} : PTs X ifs (WPTs X ifs) := ⟨fun pins s σ H Q I h => h pins s I⟩
theorem wpts_of {X : Cx} {ifs : List Expr} {t : TT} {σ : L2.St} {H : Hp} {Q : Bool → Hp → Prop} (p : PTs X ifs t) (h : t σ H Q) : WPTs X ifs σ H Q := fun pins s I => p.run pins s σ H Q I h
abbrev DTs (X : Cx) (ifs : List Expr) (Γ : List Slot) (b : Bool) (Γ' : List Slot) : Prop := EvT X.K (WPTs X ifs) Γ b Γ'
theorem dts_nil {X : Cx} {Γ : List Slot} : DTs X [] Γ true Γ := fun F G σ H W Q q => wpts_of pts_nil (q G H (Same.refl G) W)
theorem dts_one {X : Cx} {c : Expr} {Γ Γ1 : List Slot} {b : Bool} (h : DT X c Γ b Γ1) : DTs X [c] Γ b Γ1 := fun F G σ H W Q q => wpts_of (pts_one pt_wp) (h F G σ H W Q q)
section
variable {X : Cx} {S α : Type} {tg iter elt : Expr} {ifs : List Expr} {scope : Scope} {g : TG} {pos : Pos} {Γ Γ1 : List Slot} {ys : List α} {B : α → List Slot → List Slot} {tgs : List Nat} {P : S → α → Prop} {t : Ty} {own : List (Str × Nat)}
/-- [elt for target in iter if ..], with a state that goes along (the box) -/
theorem lc_run (Γs : S → List Slot) {s0 : S} {f : S → α → Option t.den × S} (hi : DI X tg iter g Γ ys B tgs (Γs s0)) (hz : Sz ys.length) (hP : AllC P f s0 ys) (hw : ∀ s, wipeS (Γs s) (own.map (·.2)) = Γs s) (htg : ∀ i ∈ tgs, i ∈ own.map (·.2))
    (hb : ∀ s y, P s y → ∃ (b : Bool) (Γt : List Slot) (x : t.den) (Γe : List Slot), ∀ (sh : Shared) (H : Hp) (C : Addr) (cl : List (Str × Addr)) (fp : List Addr), DTs (X.blk sh H scope (compEnvC scope cl C X.env) fp) ifs (B y (Γs s)) b Γt ∧
      (b = true → DE (X.blk sh H scope (compEnvC scope cl C X.env) fp) elt Γt t x Γe ∧ (f s y).1 = some x ∧ Wk Γe (Γs (f s y).2)) ∧ (b = false → (f s y).1 = none ∧ Wk Γt (Γs (f s y).2)))
 :
    (∀ F G σ H, Wd X.K F G σ H Γ → ∀ Q : VK, (∀ p ho G' H', Same G G' → Wd X.K { F with T := upd F.T p ho } G' σ H' (Γs (ys.foldl (lcF f) ([], s0)).2) → F.T p = none → OwnOk X.K G' ho (.lst t (ys.foldl (lcF f) ([], s0)).1) → Q (.ref p) H') →
      tLc (WPI X tg iter) g (fun σ H Q => ∀ sh H0 C cl fp, WPTs (X.blk sh H0 scope (compEnvC scope cl C X.env) fp) ifs σ H Q) (fun σ H Q => ∀ sh H0 C cl fp, WPE (X.blk sh H0 scope (compEnvC scope cl C X.env) fp) elt σ H Q) (own.map (·.2)) σ H Q) := by
  intro F G σ H W Q q
  refine hi F G σ H W _ fun J G1 H1 sg1 W1 it => ?_
  intro D hD
  have hT : F.T D = none := W1.tn hD
  refine ⟨fun i m H' => m = ys.length - i ∧ i ≤ ys.length ∧ ∃ (G' : Hp) (a : List t.den × S) (vs : List V), Same G1 G' ∧ Wd X.K { F with T := upd F.T D (.lst vs) } G' σ H' (Γs a.2) ∧ RepL X.K t G' vs a.1 ∧ a.1.length ≤ i ∧ AllC P f a.2 (ys.drop i) ∧ ys.foldl (lcF f) ([], s0) = (ys.drop i).foldl (lcF f) a,
    ⟨ys.length, by omega, by omega, G1, ([], s0), [], Same.refl _, W1.new hD, .nil, Nat.le_refl _, hP, rfl⟩, ?_⟩
  rintro i m H' ⟨rfl, hi', G', a, vs, sg', W', hr, hal, hA, hE⟩
  by_cases hl : i < ys.length
  · refine .inr ⟨it.go i G' H' sg' W'.gh hl, ?_⟩
    have hd : ys.drop i = ys[i] :: ys.drop (i + 1) := List.drop_eq_getElem_cons hl
    rw [hd] at hA hE
    obtain ⟨b, Γt, x, Γe, hblk⟩ := hb a.2 ys[i] hA.1
    have hA2 : AllC P f (lcF f a ys[i]).2 (ys.drop (i + 1)) := by rw [lcF_snd]; exact hA.2
    have hE2 : ys.foldl (lcF f) ([], s0) = (ys.drop (i + 1)).foldl (lcF f) (lcF f a ys[i]) := hE
    refine ⟨fun H3 => ∃ (G3 : Hp) (a' : List t.den × S) (vs' : List V), Same G1 G3 ∧ Wd X.K { F with T := upd F.T D (.lst vs') } G3 σ H3 (Γs a'.2) ∧ RepL X.K t G3 vs' a'.1 ∧ a'.1.length ≤ i + 1 ∧ AllC P f a'.2 (ys.drop (i + 1)) ∧ ys.foldl (lcF f) ([], s0) = (ys.drop (i + 1)).foldl (lcF f) a',
      fun H3 ⟨G3, a', vs', a1, a2, a3, a4, a5, a6⟩ => ⟨ys.length - (i + 1), by omega, rfl, hl, G3, a', vs', a1, a2, a3, a4, a5, a6⟩, fun v H3 y => ?_⟩
    refine it.yld { F with T := upd F.T D (.lst vs) } i ys[i] G' (wipe σ (own.map (·.2))) H' (Γs a.2) v H3 _ sg' (W'.wiped (hw _)) (List.getElem?_eq_getElem hl) y fun G3 σ3 H4 sg3 at3 W3 => ?_
    refine ⟨wipe_back at3 htg, fun sh H0 C cl fp => ?_⟩
    refine (hblk sh H0 C cl fp).1 _ G3 σ3 H4 W3 _ fun G4 H5 sg4 W4 => ?_
    cases b with
    | true =>
      rw [if_pos rfl]
      intro sh2 H02 C2 cl2 fp2
      obtain ⟨hx, hf, hk⟩ := (hblk sh2 H02 C2 cl2 fp2).2.1 rfl
      refine hx _ G4 σ3 H5 W4 _ fun u G5 H6 sg5 W5 r5 => ?_
      have W6 := (W5.weak hk).unwiped (hw _) at3 htg
      refine ⟨vs, W6.held.1, ?_, G5, lcF f a ys[i], vs ++ [u], ((sg'.trans sg3).trans sg4).trans sg5, ?_, ?_, ?_, hA2, hE2⟩
      · have e := pair_len hr
        have := hz.lt
        omega
      · rw [lcF_snd]; exact W6.grow
      · have e1 : (lcF f a ys[i]).1 = a.1 ++ [x] := by
          unfold lcF
          cases e2 : f a.2 ys[i] with
          | mk o s' => rw [e2] at hf; simp only at hf; subst hf; rfl
        rw [e1]
        exact pair_app (repL_mono ((sg3.trans sg4).trans sg5) hr) (.cons r5 .nil)
      · have := lcF_len (f := f) (a := a) (y := ys[i])
        omega
    | false =>
      rw [if_neg Bool.false_ne_true]
      obtain ⟨hf, hk⟩ := (hblk sh H0 C cl fp).2.2 rfl
      have W6 := (W4.weak hk).unwiped (hw _) at3 htg
      refine ⟨G4, lcF f a ys[i], vs, (sg'.trans sg3).trans sg4, by rw [lcF_snd]; exact W6, ?_, ?_, hA2, hE2⟩
      · have e1 : (lcF f a ys[i]).1 = a.1 := by
          unfold lcF
          cases e2 : f a.2 ys[i] with
          | mk o s' => rw [e2] at hf; simp only at hf; subst hf; rfl
        rw [e1]
        exact repL_mono (sg3.trans sg4) hr
      · have := lcF_len (f := f) (a := a) (y := ys[i])
        omega
  · have e : i = ys.length := by omega
    subst e
    rw [List.drop_length] at hE
    refine .inl ⟨it.stop G' H' sg' W'.gh, ?_⟩
    have hE' : ys.foldl (lcF f) ([], s0) = a := hE
    exact q D (.lst vs) G' H' (sg1.trans sg') (by rw [hE']; exact W') hT ⟨vs, rfl, by rw [hE']; exact hr⟩
structure LcOk (X : Cx) (elt tg iter : Expr) (ifs : List Expr) (scope : Scope) (Γ : List Slot) (o : Own) (Γ' : List Slot) : Prop where
  ex : ∃ (own : List (Str × Nat)) (wi : TI) (g : TG) (tt : TT) (te : TE), BlkOk X.N X.env.scope scope own ∧ PI X tg iter wi ∧
    (∀ (sh : Shared) (H : Hp) (C : Addr) (cl : List (Str × Addr)) (fp : List Addr), PG (X.blk sh H scope (compEnvC scope cl C X.env) fp) tg g) ∧
    (∀ (sh : Shared) (H : Hp) (C : Addr) (cl : List (Str × Addr)) (fp : List Addr), PTs (X.blk sh H scope (compEnvC scope cl C X.env) fp) ifs tt) ∧
    (∀ (sh : Shared) (H : Hp) (C : Addr) (cl : List (Str × Addr)) (fp : List Addr), PE (X.blk sh H scope (compEnvC scope cl C X.env) fp) elt te) ∧
    ∀ F G σ H, Wd X.K F G σ H Γ → ∀ Q : VK, (∀ p ho G' H', Same G G' → Wd X.K { F with T := upd F.T p ho } G' σ H' Γ' → F.T p = none → OwnOk X.K G' ho o → Q (.ref p) H') → tLc wi g tt te (own.map (·.2)) σ H Q
/-- .. the four forms: with a state or without, with tests or without -/
abbrev InBlk (X : Cx) (scope : Scope) (p : Cx → Prop) : Prop := ∀ (sh : Shared) (H : Hp) (C : Addr) (cl : List (Str × Addr)) (fp : List Addr), p (X.blk sh H scope (compEnvC scope cl C X.env) fp)
theorem lc_S (own : List (Str × Nat)) (Γs : S → List Slot) {s0 : S} {f : S → α → Option t.den × S} (hi : DI X tg iter g Γ ys B tgs (Γs s0)) (hg : InBlk X scope fun X' => PG X' tg g) (hz : Sz ys.length) (hP : AllC P f s0 ys)
    (hb : ∀ s y, P s y → ∃ (b : Bool) (Γt : List Slot) (x : t.den) (Γe : List Slot), InBlk X scope fun X' => DTs X' ifs (B y (Γs s)) b Γt ∧ (b = true → DE X' elt Γt t x Γe ∧ (f s y).1 = some x ∧ Wk Γe (Γs (f s y).2)) ∧ (b = false → (f s y).1 = none ∧ Wk Γt (Γs (f s y).2)))
    (ok : BlkOk X.N X.env.scope scope own) (hw : ∀ s, wipeS (Γs s) (own.map (·.2)) = Γs s := by intro _; rfl) (htg : ∀ i ∈ tgs, i ∈ own.map (·.2) := by decide) : LcOk X elt tg iter ifs scope Γ (.lst t (ys.foldl (lcF f) ([], s0)).1) (Γs (ys.foldl (lcF f) ([], s0)).2) :=
  ⟨own, _, g, _, _, ok, pi_wp, hg, fun sh H C cl fp => ⟨fun pins s σ H' Q I h => h sh H C cl fp pins s I⟩, fun sh H C cl fp => ⟨fun pins s σ H' Q I h => h sh H C cl fp pins s I⟩, lc_run Γs hi hz hP hw htg hb⟩
theorem fold_map {β : Type} {h : α → β} : ∀ {ys : List α} {a : List β × Unit}, ys.foldl (lcF fun (s : Unit) y => (some (h y), s)) a = (a.1 ++ ys.map h, ())
  | [], a => by simp
  | y :: ys, a => by rw [List.foldl_cons, fold_map]; simp [lcF]
theorem fold_filt {β : Type} {c : α → Bool} {h : α → β} : ∀ {ys : List α} {a : List β × Unit}, ys.foldl (lcF fun (s : Unit) y => (bif c y then some (h y) else none, s)) a = (a.1 ++ (ys.filter c).map h, ())
  | [], a => by simp
  | y :: ys, a => by
    rw [List.foldl_cons, fold_filt]
    cases e : c y <;> simp [lcF, e]
theorem allC_of {β : Type} {P : α → Prop} {f : Unit → α → Option β × Unit} : ∀ {ys : List α}, (∀ y ∈ ys, P y) → AllC (fun _ y => P y) f () ys
  | [], _ => trivial
  | y :: ys, h => ⟨h y (by simp), allC_of fun z hz => h z (by simp [hz])⟩
theorem lc_map (own : List (Str × Nat)) {P : α → Prop} {h : α → t.den} (hi : DI X tg iter g Γ ys B tgs Γ1) (hg : InBlk X scope fun X' => PG X' tg g) (hz : Sz ys.length) (hP : ∀ y ∈ ys, P y)
    (hb : ∀ y, P y → ∃ Γe, Wk Γe Γ1 ∧ InBlk X scope fun X' => DE X' elt (B y Γ1) t (h y) Γe)
    (ok : BlkOk X.N X.env.scope scope own) (hw : wipeS Γ1 (own.map (·.2)) = Γ1 := by rfl) (htg : ∀ i ∈ tgs, i ∈ own.map (·.2) := by decide) : LcOk X elt tg iter [] scope Γ (.lst t (ys.map h)) Γ1 := by
  have r := lc_S (X := X) (scope := scope) (elt := elt) (ifs := []) (P := fun _ y => P y) (t := t) own (fun _ : Unit => Γ1) (s0 := ()) (f := fun s y => (some (h y), s)) hi hg hz (allC_of hP) (fun s y p => by
    obtain ⟨Γe, k, d⟩ := hb y p
    exact ⟨true, _, h y, Γe, fun sh H C cl fp => ⟨dts_nil, fun _ => ⟨d sh H C cl fp, rfl, k⟩, fun z => by cases z⟩⟩) ok (fun _ => hw) htg
  rw [fold_map] at r
  exact r
theorem lc_filt (own : List (Str × Nat)) {P : α → Prop} {c : α → Bool} {h : α → t.den} (hi : DI X tg iter g Γ ys B tgs Γ1) (hg : InBlk X scope fun X' => PG X' tg g) (hz : Sz ys.length) (hP : ∀ y ∈ ys, P y)
    (hb : ∀ y, P y → ∃ Γt Γe, Wk Γt Γ1 ∧ Wk Γe Γ1 ∧ InBlk X scope fun X' => DTs X' ifs (B y Γ1) (c y) Γt ∧ (c y = true → DE X' elt Γt t (h y) Γe))
    (ok : BlkOk X.N X.env.scope scope own) (hw : wipeS Γ1 (own.map (·.2)) = Γ1 := by rfl) (htg : ∀ i ∈ tgs, i ∈ own.map (·.2) := by decide) : LcOk X elt tg iter ifs scope Γ (.lst t ((ys.filter c).map h)) Γ1 := by
  have r := lc_S (X := X) (scope := scope) (elt := elt) (ifs := ifs) (P := fun _ y => P y) (t := t) own (fun _ : Unit => Γ1) (s0 := ()) (f := fun s y => (bif c y then some (h y) else none, s)) hi hg hz (allC_of hP) (fun s y p => by
    obtain ⟨Γt, Γe, k1, k2, d⟩ := hb y p
    exact ⟨c y, Γt, h y, Γe, fun sh H C cl fp => ⟨(d sh H C cl fp).1, fun z => ⟨(d sh H C cl fp).2 z, by show (bif c y then some (h y) else none) = _; rw [z]; rfl, k2⟩, fun z => ⟨by show (bif c y then some (h y) else none) = _; rw [z]; rfl, k1⟩⟩⟩) ok (fun _ => hw) htg
  rw [fold_filt] at r
  exact r
def mapS {S α β : Type} (f : S → α → β × S) : S → List α → List β × S
  | s, [] => ([], s)
  | s, y :: ys => ((f s y).1 :: (mapS f (f s y).2 ys).1, (mapS f (f s y).2 ys).2)
theorem fold_mapS {β : Type} {f : S → α → β × S} : ∀ {ys : List α} {a : List β × S}, ys.foldl (lcF fun s y => (some (f s y).1, (f s y).2)) a = (a.1 ++ (mapS f a.2 ys).1, (mapS f a.2 ys).2)
  | [], a => by simp [mapS]
  | y :: ys, a => by rw [List.foldl_cons, fold_mapS]; simp [lcF, mapS]
def AllS {S α β : Type} (P : S → α → Prop) (f : S → α → β × S) : S → List α → Prop
  | _, [] => True
  | s, y :: ys => P s y ∧ AllS P f (f s y).2 ys
theorem allC_S {β : Type} {f : S → α → β × S} : ∀ {ys : List α} {s : S}, AllS P f s ys → AllC P (fun s y => (some (f s y).1, (f s y).2)) s ys
  | [], _, _ => trivial
  | _ :: _, _, h => ⟨h.1, allC_S h.2⟩
theorem lc_mapS (own : List (Str × Nat)) (Γs : S → List Slot) {s0 : S} {f : S → α → t.den × S} (hi : DI X tg iter g Γ ys B tgs (Γs s0)) (hg : InBlk X scope fun X' => PG X' tg g) (hz : Sz ys.length) (hP : AllS P f s0 ys)
    (hb : ∀ s y, P s y → ∃ Γe, Wk Γe (Γs (f s y).2) ∧ InBlk X scope fun X' => DE X' elt (B y (Γs s)) t (f s y).1 Γe)
    (ok : BlkOk X.N X.env.scope scope own) (hw : ∀ s, wipeS (Γs s) (own.map (·.2)) = Γs s := by intro _; rfl) (htg : ∀ i ∈ tgs, i ∈ own.map (·.2) := by decide) : LcOk X elt tg iter [] scope Γ (.lst t (mapS f s0 ys).1) (Γs (mapS f s0 ys).2) := by
  have r := lc_S (X := X) (scope := scope) (elt := elt) (ifs := []) (P := P) (t := t) own Γs (s0 := s0) (f := fun s y => (some (f s y).1, (f s y).2)) hi hg hz (allC_S hP) (fun s y p => by
    obtain ⟨Γe, k, d⟩ := hb s y p
    exact ⟨true, _, (f s y).1, Γe, fun sh H C cl fp => ⟨dts_nil, fun _ => ⟨d sh H C cl fp, rfl, k⟩, fun z => by cases z⟩⟩) ok hw htg
  rw [fold_mapS] at r
  exact r
end
section
variable {X : Cx} {ρ : Type} {R : RI ρ} {tg iter elt : Expr} {ifs : List Expr} {scope : Scope} {pos : Pos} {Γ Γ1 : List Slot} {o : Own}
theorem do_lc (h : LcOk X elt tg iter ifs scope Γ o Γ1) (hN : X.N.Nodup) (hc : X.calm = true := by rfl) (hs : ∀ x, foldedSetIterable iter X.env x = pure x := by intro _; rfl) : DO X (.ListComp elt [⟨tg, iter, ifs, 0⟩] scope pos) Γ o Γ1 := fun F G σ H W Q q => by
  obtain ⟨own, wi, g, tt, te, ok, hi, hg, ht, he, k⟩ := h.ex
  exact wpe_of (pe_lc hc hN hi ok hg ht he hs) (k F G σ H W Q q)
theorem ds_lc (i : Nat) {y : Str} {py spos : Pos} (h : LcOk X elt tg iter ifs scope Γ o Γ1) (hN : X.N.Nodup) (hy : X.N[i]? = some y := by rfl) (hyl : X.env.scope.names.lookup y = some .local := by rfl)
    (hsw : swapsWith (.ListComp elt [⟨tg, iter, ifs, 0⟩] scope pos) (some (.Name y py)) spos.line X.env = pure true := by exact sw_true rfl rfl rfl (by decide +kernel)) (hc : X.calm = true := by rfl) (hs : ∀ x, foldedSetIterable iter X.env x = pure x := by intro _; rfl) :
    DS X R (.Assign [.Name y py] (.ListComp elt [⟨tg, iter, ifs, 0⟩] scope pos) spos) Γ (.nx (Γ1.set i (.ow false o))) := fun F G σ H W D q => by
  obtain ⟨own, wi, g, tt, te, ok, hi, hg, ht, he, k⟩ := h.ex
  refine wps_of (ps_setLc hc hN hy hyl hsw hi ok hg ht he hs) ?_
  show tLc wi g tt te (own.map (·.2)) σ H fun x H1 => gName i x σ H1 D.nx
  exact k F G σ H W _ fun p ho G' H' s W' hT okp => q _ G' H' s (W'.setOw hT okp)
end
end Dn

set_option Elab.async false
set_option linter.all false
set_option maxRecDepth 100000
set_option maxHeartbeats 1000000
/-! Dn, part 8: displays, slices, built-ins, methods of owned lists. -/
namespace Dn
open PySem PySem.Spec PyProof.Rows L2 TL
/-! tuples whose objects are known -/
section
variable {X : Cx}
def tTupO (t : TA) : TE := fun σ H Q => t σ H fun xs H1 => xs.length ≤ sizeLine ∧ ∀ (p : Addr) (o : Obj), H1 p = none → o.dict = none → Q (.ref p) (upd H1 p (.frz o (.tup xs)))
theorem pe_tupO {k} {es : List Expr} {t : TA} {pos : Pos} (h : PA X es t) : PE X (.Tuple es k pos) (tTupO t) := ⟨fun pins s σ H Q I hq =>
  wpAny_Tuple_spliced (thn (h.run pos pins s σ H _ I hq) fun us s1 ⟨xs, H1, I1, r, z, q⟩ => ⟨by rw [← r.length]; exact z,
    ⟨.ref s1.heap.objs.size, upd H1 s1.heap.objs.size (.frz { cls := .type "tuple", data := .seq us.toArray } (.tup xs)),
      I1.laid (t' := s1.toks) (fun b u e => Heap.get?_push_of_some _ e) (Nat.le_refl _) ⟨Heap.get?_push_size _ rfl, z, us, r, ⟨_, Heap.get?_push_size _ rfl, rfl, _, rfl⟩⟩, rfl,
      q _ _ (I1.hok.fresh (Nat.le_refl _)) rfl⟩⟩)⟩
def rTupleO (K : PySem.W.Frag) : List V → Hp → VK → Prop := fun xs H Q => ∃ p ys, xs = [.ref p] ∧ SqL K H p ys ∧ ∀ (l : Addr) (o : Obj), H l = none → o.dict = none → Q (.ref l) (upd H l (.frz o (.tup ys)))
theorem call_tupleO : CallR X (.type "tuple") (rTupleO X.K) := fun pins s σ H xs us Q I r h => by
  obtain ⟨p, ys, rfl, hq, q⟩ := h
  obtain ⟨u, rfl, rx⟩ := vals1 r
  cases rx
  obtain ⟨its, r1, pl, hz⟩ := I.list hq
  have hl := r1.length
  refine call_tuple_list pl.isList (fun h1 kp => ?_) (by simp only [List.size_toArray]; omega)
  have J : Inv X pins σ H { s with heap := h1 } := I.kept (t' := s.toks) kp
  exact ⟨.ref h1.objs.size, upd H h1.objs.size (.frz { cls := .type "tuple", data := .seq its.toArray } (.tup ys)),
    J.laid (t' := s.toks) (fun b o e => Heap.get?_push_of_some _ e) (Nat.le_refl _) ⟨Heap.get?_push_size _ rfl, hz, its, r1, IsTup.new _ _⟩, rfl, q _ _ (J.hok.fresh (Nat.le_refl _)) rfl⟩
def rSlO (K : PySem.W.Frag) : V → Option Int → Option Int → Hp → VK → Prop := fun x lo hi H Q => ∃ a xs, x = .ref a ∧ SqT K H a xs ∧
  ((HT.sIx xs.length 0 lo = 0 ∧ HT.sIx xs.length xs.length hi = xs.length → Q (.ref a) H) ∧ (¬ (HT.sIx xs.length 0 lo = 0 ∧ HT.sIx xs.length xs.length hi = xs.length) → ∀ (p : Addr) (o : Obj), H p = none → o.dict = none → Q (.ref p) (upd H p (.frz o (.tup (cutV xs lo hi))))))
theorem sl_tupO : SlR X (rSlO X.K) := fun pins s σ H x v vl vu lo hi sl Q I rx hs pl pu h => by
  obtain ⟨a, xs, rfl, hx, q1, q2⟩ := h
  cases rx
  obtain ⟨its, r, ht, hz⟩ := I.tuple hx
  have hn : its.toArray.size = xs.length := by rw [List.size_toArray, r.length]
  refine ⟨"tuple", _, PyProof.Rows.slot_tuple_getitem.lookup, ht.typeIs, ?_⟩
  by_cases hw : HT.sIx xs.length 0 lo = 0 ∧ HT.sIx xs.length xs.length hi = xs.length
  · exact getItem_tuple_whole ht hs pl pu (by rw [hn]; exact hw) ⟨.ref a, H, I, rfl, q1 hw⟩
  · refine HT.getItem_tuple_cut ht hs pl pu (by rw [hn]; exact hw) ?_ (by rw [hn]; exact hz)
    rw [hn]
    exact ⟨.ref s.heap.objs.size, _, I.laid (t' := s.toks) (o := .frz _ (.tup (cutV xs lo hi))) (fun b ob e => Heap.get?_push_of_some _ e) (Nat.le_refl _)
      ⟨Heap.get?_push_size _ rfl, Nat.le_trans (cutV_length xs lo hi) hz, _, (r.drop (HT.sIx xs.length 0 lo)).take (HT.sIx xs.length xs.length hi - HT.sIx xs.length 0 lo), IsTup.new _ _⟩, rfl, q2 hw _ _ (I.hok.fresh (Nat.le_refl _)) rfl⟩
def rCatO (K : PySem.W.Frag) : R2 := fun x y H Q => ∃ a b xs ys, x = .ref a ∧ y = .ref b ∧ SqT K H a xs ∧ SqT K H b ys ∧ xs.length + ys.length ≤ sizeLine ∧
  ((xs = [] → Q (.ref b) H) ∧ (xs ≠ [] → ys = [] → Q (.ref a) H) ∧ (xs ≠ [] → ys ≠ [] → ∀ (p : Addr) (o : Obj), H p = none → o.dict = none → Q (.ref p) (upd H p (.frz o (.tup (xs ++ ys))))))
theorem op_catO : OpR X (binaryOp .Add) (rCatO X.K) := fun pins s σ H x y v u Q I rx ry h => by
  obtain ⟨a, b, xs, ys, rfl, rfl, ha, hb, hz, q0, q1, q2⟩ := h
  by_cases hx : xs = []
  · exact op_catA pins s σ H _ _ v u Q I rx ry ⟨a, b, xs, ys, rfl, rfl, ha, hb, hz, q0, fun z => absurd hx z, fun z => absurd hx z⟩
  · cases rx
    cases ry
    obtain ⟨its, r1, p1, _⟩ := I.tuple ha
    obtain ⟨itt, r2, p2, _⟩ := I.tuple hb
    refine HT.cat_tup p1 p2 (fun z => hx (r1.nil_iff.mp z)) (fun z => ⟨.ref a, H, I, rfl, q1 hx (r2.nil_iff.mp z)⟩) (fun z => ?_) (by rw [← r1.length, ← r2.length]; exact hz)
    exact ⟨.ref s.heap.objs.size, _, I.laid (t' := s.toks) (o := .frz _ (.tup (xs ++ ys))) (fun b ob e => Heap.get?_push_of_some _ e) (Nat.le_refl _)
      ⟨Heap.get?_push_size _ rfl, by rw [List.length_append]; exact hz, _, r1.append r2, IsTup.new _ _⟩, rfl, q2 hx (fun w => z (r2.nil_iff.mpr w)) _ _ (I.hok.fresh (Nat.le_refl _)) rfl⟩
end

section
variable {X : Cx} {a b e : Expr} {es : List Expr} {pos p : Pos} {Γ Γ1 Γ2 Γ3 : List Slot} {t u : Ty} {xs ys : List t.den}
/-! ### displays -/
/-- items, all of one type -/
theorem sz_of {n : Nat} (h : Nat.ble n 100000 = true) : Sz n := Nat.le_of_ble_eq_true h
def EvLs (K : PySem.W.Frag) (ta : TA) (Γ : List Slot) (t : Ty) (xs : List t.den) (Γ' : List Slot) : Prop :=
  ∀ (F : Fx) (G : Hp) (σ : L2.St) (H : Hp), Wd K F G σ H Γ → ∀ Q : List V → Hp → Prop, (∀ vs G' H', Same G G' → Wd K F G' σ H' Γ' → RepL K t G' vs xs → Q vs H') → ta σ H Q
abbrev DLs (X : Cx) (es : List Expr) (Γ : List Slot) (t : Ty) (xs : List t.den) (Γ' : List Slot) : Prop := EvLs X.K (WPA X es) Γ t xs Γ'
theorem dls_nil : DLs X [] Γ t [] Γ := fun F G σ H W Q q => wpa_of pa_nil (q [] G H (Same.refl G) W .nil)
theorem dls_cons {x : t.den} (ha : DE X e Γ t x Γ1) (hr : DLs X es Γ1 t xs Γ2) (hs : starEach (e :: es) X.env = (false, eval e X.env) :: starEach es X.env := by rfl) : DLs X (e :: es) Γ t (x :: xs) Γ2 := fun F G σ H W Q q =>
  wpa_of (pa_cons pe_wp pa_wp hs) (ha F G σ H W _ fun v G1 H1 s1 W1 r1 => hr F G1 σ H1 W1 _ fun vs G2 H2 s2 W2 r2 => q (v :: vs) G2 H2 (s1.trans s2) W2 (.cons (rep_mono s2 t v x r1) r2))
theorem do_lst (h : DLs X es Γ t xs Γ1) (hz : Sz xs.length := by exact sz_of rfl) : DO X (.List es pos) Γ (.lst t xs) Γ1 := fun F G σ H W Q q =>
  wpe_of (pe_lst pa_wp) (h F G σ H W _ fun vs G' H' s W' r => by
    have el := pair_len r
    exact ⟨by rw [el]; exact hz.le, fun p hp => q p (.lst vs) G' _ s (W'.new hp) (W'.tn hp) ⟨vs, rfl, r⟩⟩)
/-- a tuple of items of one type -/
theorem de_tupH {k} (h : DLs X es Γ t xs Γ1) (hz : Sz xs.length := by exact sz_of rfl) : DE X (.Tuple es k pos) Γ (.tup t) xs Γ1 := fun F G σ H W Q q =>
  wpe_of (pe_tupO pa_wp) (h F G σ H W _ fun vs G' H' s W' r => by
    have el := pair_len r
    refine ⟨by rw [el]; exact hz.le, fun p o hp ho => ?_⟩
    have sm := same_upd (o := .frz o (.tup vs)) (W'.gn hp)
    exact q (.ref p) _ _ (s.trans sm) (W'.newG hp) ⟨p, vs, rfl, ⟨o, upd_same, ho⟩, repL_mono sm r⟩)
section
variable {A B C D E5 : Ty} {x1 : A.den} {x2 : B.den} {x3 : C.den} {x4 : D.den} {x5 : E5.den} {kk : Nat} {a1 a2 a3 a4 a5 : Expr} {Γ4 Γ5 : List Slot}
theorem de_t2 {k} (h1 : DE X a1 Γ A x1 Γ1) (h2 : DE X a2 Γ1 B x2 Γ2) (hs : starEach [a1, a2] X.env = (false, eval a1 X.env) :: starEach [a2] X.env := by rfl) (hs2 : starEach [a2] X.env = (false, eval a2 X.env) :: starEach [] X.env := by rfl) : DE X (.Tuple [a1, a2] k pos) Γ (.p2 A B) (x1, x2) Γ2 := fun F G σ H W Q q =>
  wpe_of (pe_tup (pa_cons pe_wp (pa_cons pe_wp pa_nil hs2) hs)) (h1 F G σ H W _ fun v1 G1 H1 s1 W1 r1 => h2 F G1 σ H1 W1 _ fun v2 G2 H2 s2 W2 r2 => by
    refine ⟨(by show 2 ≤ sizeLine; decide), fun p hp => ?_⟩
    have sm := same_upd (o := .tup [v1, v2]) (W2.gn hp)
    exact q (.ref p) _ _ ((s1.trans s2).trans sm) (W2.newG hp) ⟨p, v1, v2, rfl, upd_same, rep_mono (s2.trans sm) A _ _ r1, rep_mono sm B _ _ r2⟩)
theorem de_t3 {k} (h1 : DE X a1 Γ A x1 Γ1) (h2 : DE X a2 Γ1 B x2 Γ2) (h3 : DE X a3 Γ2 C x3 Γ3) (hs : starEach [a1, a2, a3] X.env = (false, eval a1 X.env) :: starEach [a2, a3] X.env := by rfl) (hs2 : starEach [a2, a3] X.env = (false, eval a2 X.env) :: starEach [a3] X.env := by rfl)
    (hs3 : starEach [a3] X.env = (false, eval a3 X.env) :: starEach [] X.env := by rfl) : DE X (.Tuple [a1, a2, a3] k pos) Γ (.p3 A B C) (x1, x2, x3) Γ3 := fun F G σ H W Q q =>
  wpe_of (pe_tup (pa_cons pe_wp (pa_cons pe_wp (pa_cons pe_wp pa_nil hs3) hs2) hs)) (h1 F G σ H W _ fun v1 G1 H1 s1 W1 r1 => h2 F G1 σ H1 W1 _ fun v2 G2 H2 s2 W2 r2 => h3 F G2 σ H2 W2 _ fun v3 G3 H3 s3 W3 r3 => by
    refine ⟨(by show 3 ≤ sizeLine; decide), fun p hp => ?_⟩
    have sm := same_upd (o := .tup [v1, v2, v3]) (W3.gn hp)
    exact q (.ref p) _ _ (((s1.trans s2).trans s3).trans sm) (W3.newG hp) ⟨p, v1, v2, v3, rfl, upd_same, rep_mono ((s2.trans s3).trans sm) A _ _ r1, rep_mono (s3.trans sm) B _ _ r2, rep_mono sm C _ _ r3⟩)
theorem de_t4 {k} (h1 : DE X a1 Γ A x1 Γ1) (h2 : DE X a2 Γ1 B x2 Γ2) (h3 : DE X a3 Γ2 C x3 Γ3) (h4 : DE X a4 Γ3 D x4 Γ4) (hs : starEach [a1, a2, a3, a4] X.env = (false, eval a1 X.env) :: starEach [a2, a3, a4] X.env := by rfl) (hs2 : starEach [a2, a3, a4] X.env = (false, eval a2 X.env) :: starEach [a3, a4] X.env := by rfl)
    (hs3 : starEach [a3, a4] X.env = (false, eval a3 X.env) :: starEach [a4] X.env := by rfl) (hs4 : starEach [a4] X.env = (false, eval a4 X.env) :: starEach [] X.env := by rfl) : DE X (.Tuple [a1, a2, a3, a4] k pos) Γ (.p4 A B C D) (x1, x2, x3, x4) Γ4 := fun F G σ H W Q q =>
  wpe_of (pe_tup (pa_cons pe_wp (pa_cons pe_wp (pa_cons pe_wp (pa_cons pe_wp pa_nil hs4) hs3) hs2) hs)) (h1 F G σ H W _ fun v1 G1 H1 s1 W1 r1 => h2 F G1 σ H1 W1 _ fun v2 G2 H2 s2 W2 r2 => h3 F G2 σ H2 W2 _ fun v3 G3 H3 s3 W3 r3 => h4 F G3 σ H3 W3 _ fun v4 G4 H4 s4 W4 r4 => by
    refine ⟨(by show 4 ≤ sizeLine; decide), fun p hp => ?_⟩
    have sm := same_upd (o := .tup [v1, v2, v3, v4]) (W4.gn hp)
    exact q (.ref p) _ _ ((((s1.trans s2).trans s3).trans s4).trans sm) (W4.newG hp) ⟨p, v1, v2, v3, v4, rfl, .inl (.inl upd_same), rep_mono (((s2.trans s3).trans s4).trans sm) A _ _ r1, rep_mono ((s3.trans s4).trans sm) B _ _ r2, rep_mono (s4.trans sm) C _ _ r3, rep_mono sm D _ _ r4⟩)
end

/-! ### slices -/
def cut {α : Type} (xs : List α) (lo hi : Option Int) : List α := (xs.drop (HT.sIx xs.length 0 lo)).take (HT.sIx xs.length xs.length hi - HT.sIx xs.length 0 lo)
def WPOp (X : Cx) (e : Option Expr) : TO := fun σ H Q => ∃ t, PO X e t ∧ t σ H Q
theorem po_wp {e : Option Expr} : PO X e (WPOp X e) := ⟨fun pins s σ H Q I h => by
  obtain ⟨t, p, q⟩ := h
  exact p.run pins s σ H Q I q⟩
def EvP (K : PySem.W.Frag) (to : TO) (Γ : List Slot) (o : Option Int) (Γ' : List Slot) : Prop :=
  ∀ (F : Fx) (G : Hp) (σ : L2.St) (H : Hp), Wd K F G σ H Γ → ∀ Q : Option Int → Hp → Prop, (∀ G' H', Same G G' → Wd K F G' σ H' Γ' → Q o H') → to σ H Q
abbrev DP (X : Cx) (e : Option Expr) (Γ : List Slot) (o : Option Int) (Γ' : List Slot) : Prop := EvP X.K (WPOp X e) Γ o Γ'
theorem dp_none : DP X none Γ none Γ := fun F G σ H W Q q => ⟨_, po_none, q G H (Same.refl G) W⟩
theorem dp_some {i : Int} (h : DE X e Γ .int i Γ1) : DP X (some e) Γ (some i) Γ1 := fun F G σ H W Q q => ⟨_, po_some pe_wp, h F G σ H W _ fun v G' H' s W' r => ⟨i, r, q G' H' s W'⟩⟩
section
variable {l h : Option Expr} {lo hi : Option Int} {p2 : Pos}
theorem de_slS {x : List Nat} (hz : Sz x.length) (he : DE X e Γ .str x Γ1) (hl : DP X l Γ1 lo Γ2) (hh : DP X h Γ2 hi Γ3) : DE X (.Subscript e (.Slice l h none p2) pos) Γ .str (cut x lo hi) Γ3 := fun F G σ H W Q q =>
  wpe_of (pe_slice sl_str pe_wp po_wp po_wp) (he F G σ H W _ fun v G1 H1 s1 W1 r1 => hl F G1 σ H1 W1 _ fun G2 H2 s2 W2 => hh F G2 σ H2 W2 _ fun G3 H3 s3 W3 =>
    ⟨⟨x.toArray⟩, r1, by rw [len_mk]; exact hz.le, q _ G3 H3 ((s1.trans s2).trans s3) W3 (by
      show V.str (cutS ⟨x.toArray⟩ lo hi) = vS (cut x lo hi)
      unfold vS cut cutS
      rw [len_mk])⟩)
theorem rep_cut {K : PySem.W.Frag} {G : Hp} {vs : List V} (r : RepL K t G vs xs) : RepL K t G (cutV vs lo hi) (cut xs lo hi) := by
  unfold cutV cut
  rw [pair_len r]
  exact pair_take _ (pair_drop _ r)
theorem do_slL (he : DE X e Γ (.lst t) xs Γ1) (hl : DP X l Γ1 lo Γ2) (hh : DP X h Γ2 hi Γ3) : DO X (.Subscript e (.Slice l h none p2) pos) Γ (.lst t (cut xs lo hi)) Γ3 := fun F G σ H W Q q =>
  wpe_of (pe_slice sl_list pe_wp po_wp po_wp) (he F G σ H W _ fun v G1 H1 s1 W1 r1 => hl F G1 σ H1 W1 _ fun G2 H2 s2 W2 => hh F G2 σ H2 W2 _ fun G3 H3 s3 W3 => by
    obtain ⟨a, vs, rfl, h1, h2⟩ := r1
    exact ⟨a, vs, rfl, .inl (rd_mono ((s2.trans s3).trans W3.gh) h1), fun p hp => q p _ G3 _ ((s1.trans s2).trans s3) (W3.new hp) (W3.tn hp) ⟨_, rfl, rep_cut (repL_mono (s2.trans s3) h2)⟩⟩)
theorem de_slU (he : DE X e Γ (.tup t) xs Γ1) (hl : DP X l Γ1 lo Γ2) (hh : DP X h Γ2 hi Γ3) : DE X (.Subscript e (.Slice l h none p2) pos) Γ (.tup t) (cut xs lo hi) Γ3 := fun F G σ H W Q q =>
  wpe_of (pe_slice sl_tupO pe_wp po_wp po_wp) (he F G σ H W _ fun v G1 H1 s1 W1 r1 => hl F G1 σ H1 W1 _ fun G2 H2 s2 W2 => hh F G2 σ H2 W2 _ fun G3 H3 s3 W3 => by
    obtain ⟨a, vs, rfl, h1, h2⟩ := r1
    have el := pair_len h2
    refine ⟨a, vs, rfl, sqt_mono ((s2.trans s3).trans W3.gh) h1.t, fun z => ?_, fun z p o hp ho => ?_⟩
    · refine q _ G3 H3 ((s1.trans s2).trans s3) W3 ⟨a, vs, rfl, h1.mono (s2.trans s3), ?_⟩
      have e1 : cut xs lo hi = xs := by
        unfold cut
        rw [← el, z.1, z.2, List.drop_zero, Nat.sub_zero, el, List.take_length]
      rw [e1]
      exact repL_mono (s2.trans s3) h2
    · have sm := same_upd (o := .frz o (.tup (cutV vs lo hi))) (W3.gn hp)
      exact q _ _ _ (((s1.trans s2).trans s3).trans sm) (W3.newG hp) ⟨p, _, rfl, ⟨o, upd_same, ho⟩, rep_cut (repL_mono ((s2.trans s3).trans sm) h2)⟩)
end

/-! ### + of sequences -/
theorem de_catU (hz : Sz (xs.length + ys.length)) (ha : DE X a Γ (.tup t) xs Γ1) (hb : DE X b Γ1 (.tup t) ys Γ2) : DE X (.BinOp a .Add b pos) Γ (.tup t) (xs ++ ys) Γ2 := fun F G σ H W Q q =>
  wpe_of (pe_op op_catO pe_wp pe_wp) (ha F G σ H W _ fun v G1 H1 s1 W1 r1 => hb F G1 σ H1 W1 _ fun w G2 H2 s2 W2 r2 => by
    obtain ⟨a1, vs, rfl, h1, h2⟩ := r1
    obtain ⟨a2, ws, rfl, h3, h4⟩ := r2
    have el := pair_len h2
    have el2 := pair_len h4
    refine ⟨a1, a2, vs, ws, rfl, rfl, sqt_mono (s2.trans W2.gh) h1.t, sqt_mono W2.gh h3.t, by rw [el, el2]; exact hz.le, fun z => ?_, fun z z2 => ?_, fun z z2 p o hp ho => ?_⟩
    · subst z
      cases h2
      exact q _ G2 H2 (s1.trans s2) W2 ⟨a2, ws, rfl, h3, h4⟩
    · subst z2
      cases h4
      exact q _ G2 H2 (s1.trans s2) W2 ⟨a1, vs, rfl, h1.mono s2, by rw [List.append_nil]; exact repL_mono s2 h2⟩
    · have sm := same_upd (o := .frz o (.tup (vs ++ ws))) (W2.gn hp)
      exact q _ _ _ ((s1.trans s2).trans sm) (W2.newG hp) ⟨p, _, rfl, ⟨o, upd_same, ho⟩, pair_app (repL_mono (s2.trans sm) h2) (repL_mono sm h4)⟩)
theorem Inv.lstR {pins : List (Addr × Obj)} {σ : L2.St} {H : Hp} {s : Shared} {l : Addr} {vs : List V} (I : Inv X pins σ H s) (h : Rd H l (.lst vs)) : vs.length ≤ sizeLine ∧ ∃ (its : List Value) (n : Nat), Vals vs its ∧ vs.length = its.length ∧ s.heap.get? l = some { cls := .type "list", data := .seq its.toArray n } := by
  obtain ⟨z, its, n, r, e⟩ := h.ok I.hok
  exact ⟨z, its, n, r, r.length, e⟩
def rCatR : R2 := fun x y H Q => ∃ l b xs zs, x = .ref l ∧ y = .ref b ∧ Rd H l (.lst xs) ∧ Rd H b (.lst zs) ∧ xs.length + zs.length ≤ sizeLine ∧ ∀ p, H p = none → Q (.ref p) (upd H p (.lst (xs ++ zs)))
theorem op_catR : OpR X (binaryOp .Add) rCatR := by
  intro pins s σ H x y v u Q I rx ry h
  obtain ⟨l, b, xs, zs, rfl, rfl, hH, hB, hz, q⟩ := h
  cases rx
  cases ry
  obtain ⟨z, its, n, r, hl, e⟩ := Inv.lstR I hH
  obtain ⟨z2, its2, n2, r2, hl2, e2⟩ := Inv.lstR I hB
  refine PySem.P.add_list e e2 ?_ (by rw [List.size_toArray, List.size_toArray]; omega)
  have ea : its.toArray ++ its2.toArray = (its ++ its2).toArray := by simp
  rw [ea]
  exact ⟨.ref _, _, I.lnew (t' := s.toks) (r.append r2) (by rw [List.length_append]; omega), rfl, q _ I.fresh⟩
theorem do_catL (hz : Sz (xs.length + ys.length)) (ha : DE X a Γ (.lst t) xs Γ1) (hb : DE X b Γ1 (.lst t) ys Γ2) : DO X (.BinOp a .Add b pos) Γ (.lst t (xs ++ ys)) Γ2 := fun F G σ H W Q q =>
  wpe_of (pe_op op_catR pe_wp pe_wp) (ha F G σ H W _ fun v G1 H1 s1 W1 r1 => hb F G1 σ H1 W1 _ fun w G2 H2 s2 W2 r2 => by
    obtain ⟨a1, vs, rfl, h1, h2⟩ := r1
    obtain ⟨a2, ws, rfl, h3, h4⟩ := r2
    have el := pair_len h2
    have el2 := pair_len h4
    exact ⟨a1, a2, vs, ws, rfl, rfl, rd_mono (s2.trans W2.gh) h1, rd_mono W2.gh h3, by rw [el, el2]; exact hz.le, fun p hp => q p _ G2 _ (s1.trans s2) (W2.new hp) (W2.tn hp) ⟨_, rfl, pair_app (repL_mono s2 h2) h4⟩⟩)

/-! ### built-ins -/
section
variable {n : Str}
theorem da_1 {x : u.den} (h : DE X e Γ u x Γ1) (hs : starEach [e] X.env = (false, eval e X.env) :: starEach [] X.env := by rfl) : DA X [e] Γ [.fr u x] Γ1 := da_cons h da_nil hs
theorem wpa_one {σ : L2.St} {H : Hp} {Q : List V → Hp → Prop} (hs : starEach [e] X.env = (false, eval e X.env) :: starEach [] X.env) (h : WPE X e σ H fun v H' => Q [v] H') : WPA X [e] σ H Q :=
  wpa_of (pa_cons pe_wp pa_nil hs) h
theorem de_lenS {x : List Nat} (hm : X.mg "len" = none) (hz : Sz x.length) (h : DE X e Γ .str x Γ1) (hg : Gl X "len" := by rfl) (hs : starEach [e] X.env = (false, eval e X.env) :: starEach [] X.env := by rfl) (hpl : (backTo pos (starEach [] X.env)).any (·.1) = false := by rfl) : DE X (.Call (.Name "len" p) [e] [] pos) Γ .int (x.length : Int) Γ1 := fun F G σ H W Q q =>
  wpe_of (pe_callB call_len_str hg hm PySem.boot_len pa_wp (by decide) (by decide) hs hpl) (wpa_one hs (h F G σ H W _ fun v G1 H1 s1 W1 r1 => ⟨⟨x.toArray⟩, by rw [show v = _ from r1]; rfl, by rw [len_mk]; exact hz.le, q _ G1 H1 s1 W1 (by rw [len_mk]; rfl)⟩))
theorem de_len (hm : X.mg "len" = none) (h : DQ X e Γ t xs Γ1) (hg : Gl X "len" := by rfl) (hs : starEach [e] X.env = (false, eval e X.env) :: starEach [] X.env := by rfl) (hpl : (backTo pos (starEach [] X.env)).any (·.1) = false := by rfl) : DE X (.Call (.Name "len" p) [e] [] pos) Γ .int (xs.length : Int) Γ1 := fun F G σ H W Q q =>
  wpe_of (pe_callB call_len_seq hg hm PySem.boot_len pa_wp (by decide) (by decide) hs hpl) (wpa_one hs (h F G σ H W _ fun a vs G1 H1 s1 W1 h1 h2 => ⟨a, vs, rfl, h1, q _ G1 H1 s1 W1 (by rw [pair_len h2]; rfl)⟩))
def b2z (c : Bool) : Int := bif c then 1 else 0
theorem de_intB {c : Bool} (hm : X.mg "int" = none) (h : DE X e Γ .bool c Γ1) (hg : Gl X "int" := by rfl) (hs : starEach [e] X.env = (false, eval e X.env) :: starEach [] X.env := by rfl) (hpl : (backTo pos (starEach [] X.env)).any (·.1) = false := by rfl) : DE X (.Call (.Name "int" p) [e] [] pos) Γ .int (b2z c) Γ1 := fun F G σ H W Q q =>
  wpe_of (pe_callTy call_int1 hg hm (by decide +kernel) pa_wp (by decide) (by decide) hs hpl) (wpa_one hs (h F G σ H W _ fun v G1 H1 s1 W1 r1 => .inr ⟨c, by rw [show v = _ from r1], q _ G1 H1 s1 W1 (by cases c <;> rfl)⟩))
theorem de_max2 {i j : Int} (hm : X.mg "max" = none) (ha : DE X a Γ .int i Γ1) (hb : DE X b Γ1 .int j Γ2) (hc : X.calm = true := by rfl) (hg : Gl X "max" := by rfl) (hs : starEach [a, b] X.env = (false, eval a X.env) :: starEach [b] X.env := by rfl) (hs2 : starEach [b] X.env = (false, eval b X.env) :: starEach [] X.env := by rfl) (hpl : (backTo pos (starEach [b] X.env)).any (·.1) = false := by rfl) :
    DE X (.Call (.Name "max" p) [a, b] [] pos) Γ .int (max i j) Γ2 := fun F G σ H W Q q =>
  wpe_of (pe_callB (call_max2 hc) hg hm (by decide +kernel) (pa_cons pe_wp (pa_cons pe_wp pa_nil hs2) hs) (by decide) (by decide) hs hpl) (ha F G σ H W _ fun v G1 H1 s1 W1 r1 => hb F G1 σ H1 W1 _ fun w G2 H2 s2 W2 r2 =>
    ⟨i, j, by rw [show v = _ from r1, show w = _ from r2], q _ G2 H2 (s1.trans s2) W2 (by show V.int _ = V.int _; congr 1; split <;> omega)⟩)
theorem de_min2 {i j : Int} (hm : X.mg "min" = none) (ha : DE X a Γ .int i Γ1) (hb : DE X b Γ1 .int j Γ2) (hc : X.calm = true := by rfl) (hg : Gl X "min" := by rfl) (hs : starEach [a, b] X.env = (false, eval a X.env) :: starEach [b] X.env := by rfl) (hs2 : starEach [b] X.env = (false, eval b X.env) :: starEach [] X.env := by rfl) (hpl : (backTo pos (starEach [b] X.env)).any (·.1) = false := by rfl) :
    DE X (.Call (.Name "min" p) [a, b] [] pos) Γ .int (min i j) Γ2 := fun F G σ H W Q q =>
  wpe_of (pe_callB (call_min2 hc) hg hm (by decide +kernel) (pa_cons pe_wp (pa_cons pe_wp pa_nil hs2) hs) (by decide) (by decide) hs hpl) (ha F G σ H W _ fun v G1 H1 s1 W1 r1 => hb F G1 σ H1 W1 _ fun w G2 H2 s2 W2 r2 =>
    ⟨i, j, by rw [show v = _ from r1, show w = _ from r2], q _ G2 H2 (s1.trans s2) W2 (by show V.int _ = V.int _; congr 1; split <;> omega)⟩)
theorem de_tuple (hm : X.mg "tuple" = none) (h : DL X e Γ t xs Γ1) (hg : Gl X "tuple" := by rfl) (hs : starEach [e] X.env = (false, eval e X.env) :: starEach [] X.env := by rfl) (hpl : (backTo pos (starEach [] X.env)).any (·.1) = false := by rfl) : DE X (.Call (.Name "tuple" p) [e] [] pos) Γ (.tup t) xs Γ1 := fun F G σ H W Q q =>
  wpe_of (pe_callTy call_tupleO hg hm (by decide +kernel) pa_wp (by decide) (by decide) hs hpl) (wpa_one hs (h F G σ H W _ fun a vs G1 H1 s1 W1 h1 h2 => ⟨a, vs, rfl, h1, fun l o hl ho => by
      have sm := same_upd (o := .frz o (.tup vs)) (W1.gn hl)
      exact q _ _ _ (s1.trans sm) (W1.newG hl) ⟨l, vs, rfl, ⟨o, upd_same, ho⟩, repL_mono sm h2⟩⟩))
theorem do_list (hm : X.mg "list" = none) (h : DQ X e Γ t xs Γ1) (hg : Gl X "list" := by rfl) (hs : starEach [e] X.env = (false, eval e X.env) :: starEach [] X.env := by rfl) (hpl : (backTo pos (starEach [] X.env)).any (·.1) = false := by rfl) : DO X (.Call (.Name "list" p) [e] [] pos) Γ (.lst t xs) Γ1 := fun F G σ H W Q q =>
  wpe_of (pe_callTy call_list_of hg hm (by decide +kernel) pa_wp (by decide) (by decide) hs hpl) (wpa_one hs (h F G σ H W _ fun a vs G1 H1 s1 W1 h1 h2 => ⟨a, vs, rfl, h1, fun l hl => q l _ G1 _ s1 (W1.new hl) (W1.tn hl) ⟨vs, rfl, h2⟩⟩))
theorem call_list_txt (hc : X.calm = true) : CallR X (.type "list") (fun xs H Q => ∃ x : List Nat, xs = [vS x] ∧ x.length ≤ sizeLine ∧ ∀ l, H l = none → Q (.ref l) (upd H l (.lst (x.map fun c => vS [c])))) := by
  intro pins s σ H xs us Q I r h
  obtain ⟨x, rfl, hz, q⟩ := h
  obtain ⟨u, rfl, t, rfl⟩ := vals1 r
  refine PySem.call_list_str (I.ok.hd hc) ⟨x.toArray⟩ t (hn := by simpa using hz) fun h' tk acc' c' hk hS' hacc => ?_
  have hv : Vals (x.map fun c => vS [c]) acc'.toList := by
    obtain ⟨h1, h2⟩ := hacc
    have el : acc'.toList.length = x.length := by simpa using h1
    have key : ∀ (l : List Nat) (us : List Value), us.length = l.length → (∀ (j : Nat) (v : Value), us[j]? = some v → ∃ c u, l[j]? = some c ∧ v = .str ⟨#[c]⟩ u) → Vals (l.map fun c => vS [c]) us := by
      intro l
      induction l with
      | nil => intro us hl _; cases us with
        | nil => exact .nil
        | cons _ _ => cases hl
      | cons c l ih => intro us hl hj; cases us with
        | nil => cases hl
        | cons v us =>
          obtain ⟨c', u, e1, e2⟩ := hj 0 v rfl
          cases e1
          exact .cons ⟨u, e2⟩ (ih us (by simpa using hl) fun j v e => hj (j + 1) v (by simpa using e))
    refine key x acc'.toList el fun j v e => ?_
    obtain ⟨c, u, e1, e2⟩ := h2 j v (by simpa using e)
    exact ⟨c, u, by simpa using e1, e2⟩
  exact ⟨.ref _, _, I.laid (t' := tk) (o := .lst (x.map fun c => vS [c])) hk (Nat.le_refl _) ⟨by simpa using hz, acc'.toList, c', hv, by simpa using hS'⟩, rfl, q _ I.fresh⟩
theorem do_listS {x : List Nat} (hm : X.mg "list" = none) (hz : Sz x.length) (h : DE X e Γ .str x Γ1) (hc : X.calm = true := by rfl) (hg : Gl X "list" := by rfl) (hs : starEach [e] X.env = (false, eval e X.env) :: starEach [] X.env := by rfl) (hpl : (backTo pos (starEach [] X.env)).any (·.1) = false := by rfl) : DO X (.Call (.Name "list" p) [e] [] pos) Γ (.lst .str (chars x)) Γ1 := fun F G σ H W Q q =>
  wpe_of (pe_callTy (call_list_txt hc) hg hm (by decide +kernel) pa_wp (by decide) (by decide) hs hpl) (wpa_one hs (h F G σ H W _ fun v G1 H1 s1 W1 r1 => ⟨x, by rw [show v = _ from r1], hz.le, fun l hl => q l _ G1 _ s1 (W1.new hl) (W1.tn hl) ⟨_, rfl, by
    unfold chars
    clear q r1 h hz
    induction x with
    | nil => exact .nil
    | cons c x ih => exact .cons rfl ih⟩⟩))
end
end
end Dn

set_option Elab.async false
set_option linter.all false
set_option maxRecDepth 100000
set_option maxHeartbeats 1000000
/-! Dn, part 9: things as data: == at any depth, in, order, sorted. -/
namespace Dn
open PySem PySem.Spec PyProof.Rows L2 TL

def toPy : (t : Ty) → t.den → PyData
  | .int, x => .int x
  | .bool, x => .bool x
  | .str, x => .str ⟨x.toArray⟩
  | .non, _ => .none
  | .scr, x => .list (x.map fun z => .int z)
  | .opt t, x => match x with
    | none => .none
    | some y => toPy t y
  | .lst t, x => .list (x.map (toPy t))
  | .tup t, x => .tuple (x.map (toPy t))
  | .si, x => match x with
    | .inl s => .str ⟨s.toArray⟩
    | .inr i => .int i
  | .iu t, x => match x with
    | .inl i => .int i
    | .inr y => .tuple (y.map (toPy t))
  | .p2 a b, x => .tuple [toPy a x.1, toPy b x.2]
  | .p3 a b c, x => .tuple [toPy a x.1, toPy b x.2.1, toPy c x.2.2]
  | .p4 a b c d, x => .tuple [toPy a x.1, toPy b x.2.1, toPy c x.2.2.1, toPy d x.2.2.2]
  | .p5 a b c d e, x => .tuple [toPy a x.1, toPy b x.2.1, toPy c x.2.2.1, toPy d x.2.2.2.1, toPy e x.2.2.2.2]
section
variable {K : PySem.W.Frag} {G H : Hp}
theorem dpAll_of {t : Ty} (f : ∀ v x, Rep K t G v x → Dp K H v (toPy t x)) : ∀ {vs : List V} {xs : List t.den}, RepL K t G vs xs → DpAll K H vs (xs.map (toPy t))
  | _, _, .nil => .nil
  | _, _, .cons r t => .cons (f _ _ r) (dpAll_of f t)
theorem dp_ints : ∀ (xs : List Int), DpAll K H (xs.map V.int) (xs.map fun z => PyData.int z)
  | [] => .nil
  | x :: xs => .cons (.int x) (dp_ints xs)
theorem rep_dp (sg : Same G H) : ∀ (t : Ty) (v : V) (x : t.den), Rep K t G v x → Dp K H v (toPy t x)
  | .int, _, _, h => by cases h; exact .int _
  | .bool, _, _, h => by cases h; exact .bl _
  | .str, _, _, h => by cases h; exact .str _
  | .non, _, _, h => by cases h; exact .non
  | .scr, _, x, ⟨a, h1, h2⟩ => by subst h1; exact .lst (sql_mono sg h2) (dp_ints x)
  | .opt t, _, none, h => by cases h; exact .non
  | .opt t, _, some y, h => rep_dp sg t _ y h.2
  | .lst t, _, _, ⟨a, vs, h1, h2, h3⟩ => by subst h1; exact .lst (.inl (rd_mono sg h2)) (dpAll_of (rep_dp sg t) h3)
  | .tup t, _, _, ⟨a, vs, h1, h2, h3⟩ => by subst h1; exact .tup (sqt_mono sg h2.t) (dpAll_of (rep_dp sg t) h3)
  | .si, _, .inl i, h => by cases h; exact .str _
  | .si, _, .inr i, h => by cases h; exact .int _
  | .iu t, _, .inl i, h => by cases h; exact .int _
  | .iu t, _, .inr y, ⟨a, vs, h1, h2, h3⟩ => by subst h1; exact .tup (sqt_mono sg h2.t) (dpAll_of (rep_dp sg t) h3)
  | .p2 a b, _, _, ⟨p, v1, v2, h0, h1, h2, h3⟩ => by subst h0; exact .tup (sqt_mono sg (tT h1)) (.cons (rep_dp sg a _ _ h2) (.cons (rep_dp sg b _ _ h3) .nil))
  | .p3 a b c, _, _, ⟨p, v1, v2, v3, h0, h1, h2, h3, h4⟩ => by subst h0; exact .tup (sqt_mono sg (tT h1)) (.cons (rep_dp sg a _ _ h2) (.cons (rep_dp sg b _ _ h3) (.cons (rep_dp sg c _ _ h4) .nil)))
  | .p4 a b c d, _, _, ⟨p, v1, v2, v3, v4, h0, h1, h2, h3, h4, h5⟩ => by subst h0; exact .tup (sqt_mono sg h1) (.cons (rep_dp sg a _ _ h2) (.cons (rep_dp sg b _ _ h3) (.cons (rep_dp sg c _ _ h4) (.cons (rep_dp sg d _ _ h5) .nil))))
  | .p5 a b c d e, _, _, ⟨p, v1, v2, v3, v4, v5, h0, h1, h2, h3, h4, h5, h6⟩ => by subst h0; exact .tup (sqt_mono sg h1) (.cons (rep_dp sg a _ _ h2) (.cons (rep_dp sg b _ _ h3) (.cons (rep_dp sg c _ _ h4) (.cons (rep_dp sg d _ _ h5) (.cons (rep_dp sg e _ _ h6) .nil)))))
end
def Ty.solid : Ty → Bool
  | .opt _ => false | .non => false | _ => true
/-- no opt beneath opt or none: == by data is == -/
def Ty.canEq : Ty → Bool
  | .int => true | .bool => true | .str => true | .non => true
  | .scr => false | .si => true
  | .opt t => t.canEq && t.solid
  | .lst t => t.canEq | .tup t => t.canEq | .iu t => t.canEq
  | .p2 a b => a.canEq && b.canEq
  | .p3 a b c => a.canEq && b.canEq && c.canEq
  | .p4 a b c d => a.canEq && b.canEq && c.canEq && d.canEq
  | .p5 a b c d e => a.canEq && b.canEq && c.canEq && d.canEq && e.canEq
def Ty.dec : (t : Ty) → DecidableEq t.den
  | .int => inferInstanceAs (DecidableEq Int)
  | .bool => inferInstanceAs (DecidableEq Bool)
  | .str => inferInstanceAs (DecidableEq (List Nat))
  | .non => inferInstanceAs (DecidableEq Unit)
  | .scr => inferInstanceAs (DecidableEq (List Int))
  | .opt t => by have := t.dec; exact inferInstanceAs (DecidableEq (Option t.den))
  | .lst t => by have := t.dec; exact inferInstanceAs (DecidableEq (List t.den))
  | .tup t => by have := t.dec; exact inferInstanceAs (DecidableEq (List t.den))
  | .si => inferInstanceAs (DecidableEq (List Nat ⊕ Int))
  | .iu t => by have := t.dec; exact inferInstanceAs (DecidableEq (Int ⊕ List t.den))
  | .p2 a b => by have := a.dec; have := b.dec; exact inferInstanceAs (DecidableEq (a.den × b.den))
  | .p3 a b c => by have := a.dec; have := b.dec; have := c.dec; exact inferInstanceAs (DecidableEq (a.den × b.den × c.den))
  | .p4 a b c d => by have := a.dec; have := b.dec; have := c.dec; have := d.dec; exact inferInstanceAs (DecidableEq (a.den × b.den × c.den × d.den))
  | .p5 a b c d e => by have := a.dec; have := b.dec; have := c.dec; have := d.dec; have := e.dec; exact inferInstanceAs (DecidableEq (a.den × b.den × c.den × d.den × e.den))
theorem eqv_iff_all {t : Ty} (f : ∀ x y : t.den, PyData.eqv (toPy t x) (toPy t y) = true ↔ x = y) : ∀ xs ys : List t.den, PyData.eqvAll (xs.map (toPy t)) (ys.map (toPy t)) = true ↔ xs = ys
  | [], [] => by simp [PyData.eqvAll]
  | [], _ :: _ => by simp [PyData.eqvAll]
  | _ :: _, [] => by simp [PyData.eqvAll]
  | x :: xs, y :: ys => by simp [PyData.eqvAll, f x y, eqv_iff_all f xs ys]
theorem toPy_ne_none : ∀ (t : Ty) (x : t.den), t.solid = true → PyData.eqv .none (toPy t x) = false ∧ PyData.eqv (toPy t x) .none = false
  | .int, _, _ => ⟨rfl, rfl⟩
  | .bool, _, _ => ⟨rfl, rfl⟩
  | .str, _, _ => ⟨rfl, rfl⟩
  | .non, _, h => by cases h
  | .scr, _, _ => by simp [toPy, PyData.eqv]
  | .opt t, _, h => by cases h
  | .lst t, _, _ => by simp [toPy, PyData.eqv]
  | .tup t, _, _ => by simp [toPy, PyData.eqv]
  | .si, x, _ => by cases x <;> simp [toPy, PyData.eqv]
  | .iu t, x, _ => by cases x <;> simp [toPy, PyData.eqv]
  | .p2 .., _, _ => by simp [toPy, PyData.eqv]
  | .p3 .., _, _ => by simp [toPy, PyData.eqv]
  | .p4 .., _, _ => by simp [toPy, PyData.eqv]
  | .p5 .., _, _ => by simp [toPy, PyData.eqv]
theorem eqv_iff : ∀ (t : Ty), t.canEq = true → ∀ x y : t.den, PyData.eqv (toPy t x) (toPy t y) = true ↔ x = y
  | .int, _, x, y => by simp [toPy, PyData.eqv]
  | .bool, _, x, y => by simp [toPy, PyData.eqv]
  | .str, _, x, y => by
    simp only [toPy, PyData.eqv, beq_iff_eq]
    constructor
    · intro h; injection h with h; exact List.toArray_inj h
    · intro h; rw [h]
  | .non, _, x, y => by simp [toPy, PyData.eqv]
  | .scr, h, _, _ => by cases h
  | .opt t, h, x, y => by
    simp only [Ty.canEq, Bool.and_eq_true] at h
    have n := fun z => toPy_ne_none t z h.2
    cases x with
    | none => cases y with
      | none => simp [toPy, PyData.eqv]
      | some y => simp only [toPy, (n y).1]; simp
    | some x => cases y with
      | none => simp only [toPy, (n x).2]; simp
      | some y => simp only [toPy, eqv_iff t h.1 x y, Option.some.injEq]
  | .lst t, h, x, y => by simp only [toPy, PyData.eqv]; exact eqv_iff_all (eqv_iff t h) x y
  | .tup t, h, x, y => by simp only [toPy, PyData.eqv]; exact eqv_iff_all (eqv_iff t h) x y
  | .si, h, x, y => by
    cases x with
    | inl i => cases y with
      | inl j =>
        simp only [toPy, PyData.eqv, beq_iff_eq]
        constructor
        · intro h; injection h with h; rw [List.toArray_inj h]
        · intro h; injection h with h; rw [h]
      | inr y => simp [toPy, PyData.eqv]
    | inr x => cases y with
      | inl j => simp [toPy, PyData.eqv]
      | inr y => simp [toPy, PyData.eqv]
  | .iu t, h, x, y => by
    cases x with
    | inl i => cases y with
      | inl j => simp [toPy, PyData.eqv]
      | inr y => simp [toPy, PyData.eqv]
    | inr x => cases y with
      | inl j => simp [toPy, PyData.eqv]
      | inr y =>
        simp only [toPy, PyData.eqv, Sum.inr.injEq]
        exact eqv_iff_all (eqv_iff t h) x y
  | .p2 a b, h, (x1, x2), (y1, y2) => by
    simp only [Ty.canEq, Bool.and_eq_true] at h
    simp [toPy, PyData.eqv, PyData.eqvAll, eqv_iff a h.1, eqv_iff b h.2]
  | .p3 a b c, h, (x1, x2, x3), (y1, y2, y3) => by
    simp only [Ty.canEq, Bool.and_eq_true] at h
    simp [toPy, PyData.eqv, PyData.eqvAll, eqv_iff a h.1.1, eqv_iff b h.1.2, eqv_iff c h.2]
  | .p4 a b c d, h, (x1, x2, x3, x4), (y1, y2, y3, y4) => by
    simp only [Ty.canEq, Bool.and_eq_true] at h
    simp [toPy, PyData.eqv, PyData.eqvAll, eqv_iff a h.1.1.1, eqv_iff b h.1.1.2, eqv_iff c h.1.2, eqv_iff d h.2]
  | .p5 a b c d e, h, (x1, x2, x3, x4, x5), (y1, y2, y3, y4, y5) => by
    simp only [Ty.canEq, Bool.and_eq_true] at h
    simp [toPy, PyData.eqv, PyData.eqvAll, eqv_iff a h.1.1.1.1, eqv_iff b h.1.1.1.2, eqv_iff c h.1.1.2, eqv_iff d h.1.2, eqv_iff e h.2]
theorem eqv_dec {t : Ty} [DecidableEq t.den] (h : t.canEq = true) (x y : t.den) : PyData.eqv (toPy t x) (toPy t y) = decide (x = y) := by
  by_cases e : x = y
  · rw [decide_eq_true e]; exact (eqv_iff t h x y).mpr e
  · rw [decide_eq_false e]
    cases q : PyData.eqv (toPy t x) (toPy t y) with
    | true => exact absurd ((eqv_iff t h x y).mp q) e
    | false => rfl
/-- the texts within have signs -/
def Lay (t : Ty) (x : t.den) : Prop := (toPy t x).canLay0 = true
def Ty.noStr : Ty → Bool
  | .int => true | .bool => true | .str => false | .non => true
  | .scr => false | .si => false
  | .opt t => t.noStr | .lst t => t.noStr | .tup t => t.noStr | .iu t => t.noStr
  | .p2 a b => a.noStr && b.noStr
  | .p3 a b c => a.noStr && b.noStr && c.noStr
  | .p4 a b c d => a.noStr && b.noStr && c.noStr && d.noStr
  | .p5 a b c d e => a.noStr && b.noStr && c.noStr && d.noStr && e.noStr
theorem layAll {t : Ty} {xs : List t.den} : PyData.canLayAll0 (xs.map (toPy t)) = true ↔ ∀ x ∈ xs, Lay t x := by
  induction xs with
  | nil => simp [PyData.canLayAll0]
  | cons x xs ih => simp [PyData.canLayAll0, ih, Lay]
theorem lay_lst {t : Ty} {xs : List t.den} : Lay (.lst t) xs ↔ ∀ x ∈ xs, Lay t x := by unfold Lay; simp only [toPy, PyData.canLay0]; exact layAll
theorem lay_tup {t : Ty} {xs : List t.den} : Lay (.tup t) xs ↔ ∀ x ∈ xs, Lay t x := by unfold Lay; simp only [toPy, PyData.canLay0]; exact layAll
theorem lay_str {x : List Nat} : Lay .str x ↔ ∀ c ∈ x, c < 1114112 := by
  unfold Lay
  simp [toPy, PyData.canLay0, PyData.strOk]
theorem lay_p2 {a b : Ty} {x : a.den × b.den} : Lay (.p2 a b) x ↔ Lay a x.1 ∧ Lay b x.2 := by simp [Lay, toPy, PyData.canLay0, PyData.canLayAll0]
theorem lay_p3 {a b c : Ty} {x : a.den × b.den × c.den} : Lay (.p3 a b c) x ↔ Lay a x.1 ∧ Lay b x.2.1 ∧ Lay c x.2.2 := by simp [Lay, toPy, PyData.canLay0, PyData.canLayAll0]
theorem lay_p4 {a b c d : Ty} {x : a.den × b.den × c.den × d.den} : Lay (.p4 a b c d) x ↔ Lay a x.1 ∧ Lay b x.2.1 ∧ Lay c x.2.2.1 ∧ Lay d x.2.2.2 := by simp [Lay, toPy, PyData.canLay0, PyData.canLayAll0]
theorem lay_p5 {a b c d e : Ty} {x : a.den × b.den × c.den × d.den × e.den} : Lay (.p5 a b c d e) x ↔ Lay a x.1 ∧ Lay b x.2.1 ∧ Lay c x.2.2.1 ∧ Lay d x.2.2.2.1 ∧ Lay e x.2.2.2.2 := by simp [Lay, toPy, PyData.canLay0, PyData.canLayAll0]
theorem lay_no : ∀ (t : Ty), t.noStr = true → ∀ x : t.den, Lay t x
  | .int, _, _ => rfl
  | .bool, _, _ => rfl
  | .str, h, _ => by cases h
  | .scr, h, _ => by cases h
  | .non, _, _ => rfl
  | .opt t, h, none => rfl
  | .opt t, h, some y => lay_no t h y
  | .lst t, h, x => lay_lst.mpr fun y _ => lay_no t h y
  | .tup t, h, x => lay_tup.mpr fun y _ => lay_no t h y
  | .si, h, _ => by cases h
  | .iu t, h, .inl i => rfl
  | .iu t, h, .inr y => lay_tup (t := t).mpr fun z _ => lay_no t h z
  | .p2 a b, h, x => by
    simp only [Ty.noStr, Bool.and_eq_true] at h
    exact lay_p2.mpr ⟨lay_no a h.1 _, lay_no b h.2 _⟩
  | .p3 a b c, h, x => by
    simp only [Ty.noStr, Bool.and_eq_true] at h
    exact lay_p3.mpr ⟨lay_no a h.1.1 _, lay_no b h.1.2 _, lay_no c h.2 _⟩
  | .p4 a b c d, h, x => by
    simp only [Ty.noStr, Bool.and_eq_true] at h
    exact lay_p4.mpr ⟨lay_no a h.1.1.1 _, lay_no b h.1.1.2 _, lay_no c h.1.2 _, lay_no d h.2 _⟩
  | .p5 a b c d e, h, x => by
    simp only [Ty.noStr, Bool.and_eq_true] at h
    exact lay_p5.mpr ⟨lay_no a h.1.1.1.1 _, lay_no b h.1.1.1.2 _, lay_no c h.1.1.2 _, lay_no d h.1.2 _, lay_no e h.2 _⟩
def Ty.dep : Ty → Nat
  | .int => 0 | .bool => 0 | .str => 0 | .non => 0 | .si => 0
  | .scr => 1
  | .opt t => t.dep
  | .lst t => t.dep + 1 | .tup t => t.dep + 1 | .iu t => t.dep + 1
  | .p2 a b => max a.dep b.dep + 1
  | .p3 a b c => max a.dep (max b.dep c.dep) + 1
  | .p4 a b c d => max a.dep (max b.dep (max c.dep d.dep)) + 1
  | .p5 a b c d e => max a.dep (max b.dep (max c.dep (max d.dep e.dep))) + 1
theorem depAll {t : Ty} (f : ∀ x, (toPy t x).depth ≤ t.dep) : ∀ xs : List t.den, PyData.depthAll (xs.map (toPy t)) ≤ t.dep
  | [] => by simp [PyData.depthAll]
  | x :: xs => by
    have h1 := f x
    have h2 := depAll f xs
    simp only [List.map_cons, PyData.depthAll]
    omega
theorem depInts : ∀ xs : List Int, PyData.depthAll (xs.map fun z => PyData.int z) ≤ 0
  | [] => by simp [PyData.depthAll]
  | x :: xs => by have := depInts xs; simp only [List.map_cons, PyData.depthAll, PyData.depth]; omega
theorem dep_le : ∀ (t : Ty) (x : t.den), (toPy t x).depth ≤ t.dep
  | .int, _ => by simp [toPy, PyData.depth]
  | .bool, _ => by simp [toPy, PyData.depth]
  | .str, _ => by simp [toPy, PyData.depth]
  | .non, _ => by simp [toPy, PyData.depth]
  | .scr, x => by have := depInts x; simp only [toPy, PyData.depth, Ty.dep]; omega
  | .opt t, none => by simp [toPy, PyData.depth]
  | .opt t, some y => dep_le t y
  | .lst t, x => by have := depAll (dep_le t) x; simp only [toPy, PyData.depth, Ty.dep]; omega
  | .tup t, x => by have := depAll (dep_le t) x; simp only [toPy, PyData.depth, Ty.dep]; omega
  | .si, .inl i => by simp [toPy, PyData.depth]
  | .si, .inr i => by simp [toPy, PyData.depth]
  | .iu t, .inl i => by simp [toPy, PyData.depth]
  | .iu t, .inr x => by have := depAll (dep_le t) x; simp only [toPy, PyData.depth, Ty.dep]; omega
  | .p2 a b, x => by have h1 := dep_le a x.1; have h2 := dep_le b x.2; simp only [toPy, PyData.depth, PyData.depthAll, Ty.dep]; omega
  | .p3 a b c, x => by have h1 := dep_le a x.1; have h2 := dep_le b x.2.1; have h3 := dep_le c x.2.2; simp only [toPy, PyData.depth, PyData.depthAll, Ty.dep]; omega
  | .p4 a b c d, x => by have h1 := dep_le a x.1; have h2 := dep_le b x.2.1; have h3 := dep_le c x.2.2.1; have h4 := dep_le d x.2.2.2; simp only [toPy, PyData.depth, PyData.depthAll, Ty.dep]; omega
  | .p5 a b c d e, x => by have h1 := dep_le a x.1; have h2 := dep_le b x.2.1; have h3 := dep_le c x.2.2.1; have h4 := dep_le d x.2.2.2.1; have h5 := dep_le e x.2.2.2.2; simp only [toPy, PyData.depth, PyData.depthAll, Ty.dep]; omega
theorem shaped_of {t : Ty} {x : t.den} (h : Lay t x) (hd : t.dep ≤ 60) : SeqAt.shaped (toPy t x) = true := by
  show ((toPy t x).canLay0 && decide ((toPy t x).depth ≤ 64)) = true
  rw [Bool.and_eq_true]
  exact ⟨h, decide_eq_true (by have := dep_le t x; omega)⟩
section
variable {X : Cx} {a b e : Expr} {es : List Expr} {pos p : Pos} {Γ Γ1 Γ2 Γ3 : List Slot} {t u : Ty} {x y : t.den} {xs ys : List t.den}
/-- == of things of one type -/
theorem dc_eq {k : Nat} (hr : RoomG k X.A) (hl : Lay t x) (hl2 : Lay t y) [DecidableEq t.den] (ha : DE X a Γ t x Γ1) (hb : DE X b Γ1 t y Γ2) (he : t.canEq = true := by rfl) (hd : t.dep ≤ 60 := by decide) : DC X .Eq a b Γ (decide (x = y)) Γ2 := fun F G σ H W Q q =>
  wpc_of (pc_op (op_eqD hr.units) pe_wp pe_wp) (ev_op (τ := .bool) (c := decide (x = y)) ha hb (fun G H v w Q sg r1 r2 q => ⟨toPy t x, toPy t y, rep_dp sg t v x r1, rep_dp sg t w y r2, shaped_of hl hd, shaped_of hl2 hd, q _ (by rw [eqv_dec he]; rfl)⟩) F G σ H W Q q)
theorem dc_ne {k : Nat} (hr : RoomG k X.A) (hl : Lay t x) (hl2 : Lay t y) [DecidableEq t.den] (ha : DE X a Γ t x Γ1) (hb : DE X b Γ1 t y Γ2) (he : t.canEq = true := by rfl) (hd : t.dep ≤ 60 := by decide) : DC X .NotEq a b Γ (!decide (x = y)) Γ2 := fun F G σ H W Q q =>
  wpc_of (pc_op (op_neD hr.units) pe_wp pe_wp) (ev_op (τ := .bool) (c := !decide (x = y)) ha hb (fun G H v w Q sg r1 r2 q => ⟨toPy t x, toPy t y, rep_dp sg t v x r1, rep_dp sg t w y r2, shaped_of hl hd, shaped_of hl2 hd, q _ (by rw [eqv_dec he]; rfl)⟩) F G σ H W Q q)

/-! ### in -/
def rInQ (K : PySem.W.Frag) (neg : Bool) : R2 := fun x y H Q => ∃ d ds, Dp K H x d ∧ (Dp K H y (.list ds) ∨ Dp K H y (.tuple ds)) ∧ SeqAt.shaped d = true ∧ PyData.canLayAll0 ds = true ∧ Q (.bl (if neg then !ds.any (fun z => PyData.eqv z d) else ds.any fun z => PyData.eqv z d)) H
theorem op_inQ (hu : X.A.units + 65 < cLine) : OpR X (compareOp .In) (rInQ X.K false) := by
  intro pins s σ H x y v u Q I rx ry h
  obtain ⟨d, ds, hd, he, sd, se, q⟩ := h
  obtain ⟨as, r1⟩ := Dp.reads I d x v hd rx
  rcases he with he | he
  · obtain ⟨bs, r2⟩ := Dp.reads I (.list ds) y u he ry
    exact SeqAt.in_list_reads r2 r1 se (SeqAt.canLay_of_shaped sd) (room_in_shaped sd hu) ⟨.bl _, H, I, rfl, q⟩
  · obtain ⟨bs, r2⟩ := Dp.reads I (.tuple ds) y u he ry
    exact SeqAt.in_tuple_reads r2 r1 se (SeqAt.canLay_of_shaped sd) (room_in_shaped sd hu) ⟨.bl _, H, I, rfl, q⟩
theorem op_notInQ (hu : X.A.units + 65 < cLine) : OpR X (compareOp .NotIn) (rInQ X.K true) := by
  intro pins s σ H x y v u Q I rx ry h
  obtain ⟨d, ds, hd, he, sd, se, q⟩ := h
  obtain ⟨as, r1⟩ := Dp.reads I d x v hd rx
  rcases he with he | he
  · obtain ⟨bs, r2⟩ := Dp.reads I (.list ds) y u he ry
    exact SeqAt.notIn_list_reads r2 r1 se (SeqAt.canLay_of_shaped sd) (room_in_shaped sd hu) ⟨.bl _, H, I, rfl, q⟩
  · obtain ⟨bs, r2⟩ := Dp.reads I (.tuple ds) y u he ry
    exact SeqAt.notIn_tuple_reads r2 r1 se (SeqAt.canLay_of_shaped sd) (room_in_shaped sd hu) ⟨.bl _, H, I, rfl, q⟩
theorem RoomG.u65 {k : Nat} {A : Around} (r : RoomG k A) : A.units + 65 < cLine := by have := r.r.un; omega
theorem any_dec [DecidableEq t.den] (he : t.canEq = true) : ∀ (xs : List t.den), ((xs.map (toPy t)).any fun z => PyData.eqv z (toPy t x)) = decide (x ∈ xs)
  | [] => by simp
  | y :: xs => by
    rw [List.map_cons, List.any_cons, eqv_dec he, any_dec he xs, Bool.eq_iff_iff]
    simp only [Bool.or_eq_true, decide_eq_true_eq, List.mem_cons]
    constructor
    · rintro (h | h)
      · exact .inl h.symm
      · exact .inr h
    · rintro (h | h)
      · exact .inl h.symm
      · exact .inr h
theorem dpL_of {K : PySem.W.Frag} {G H : Hp} (sg : Same G H) {q : Addr} {vs : List V} (h : SqL K H q vs ∨ SqT K H q vs) (r : RepL K t G vs xs) : Dp K H (.ref q) (.list (xs.map (toPy t))) ∨ Dp K H (.ref q) (.tuple (xs.map (toPy t))) := by
  rcases h with h | h
  · exact .inl (.lst h (dpAll_of (rep_dp sg t) r))
  · exact .inr (.tup h (dpAll_of (rep_dp sg t) r))
theorem dc_in {k : Nat} (hr : RoomG k X.A) (hl : Lay t x) (hl2 : ∀ y ∈ xs, Lay t y) [DecidableEq t.den] (ha : DE X a Γ t x Γ1) (hb : DQ X b Γ1 t xs Γ2) (he : t.canEq = true := by rfl) (hd : t.dep ≤ 60 := by decide) : DC X .In a b Γ (decide (x ∈ xs)) Γ2 := fun F G σ H W Q q =>
  wpc_of (pc_op (op_inQ (RoomG.u65 hr)) pe_wp pe_wp) (ha F G σ H W _ fun v G1 H1 s1 W1 r1 => hb F G1 σ H1 W1 _ fun q2 vs G2 H2 s2 W2 h1 h2 =>
    ⟨toPy t x, xs.map (toPy t), rep_dp W2.gh t v x (rep_mono s2 t v x r1), dpL_of W2.gh h1 h2, shaped_of hl hd, layAll.mpr hl2, q _ G2 H2 (s1.trans s2) W2 (by rw [if_neg Bool.false_ne_true, any_dec he]; rfl)⟩)
theorem dc_nin {k : Nat} (hr : RoomG k X.A) (hl : Lay t x) (hl2 : ∀ y ∈ xs, Lay t y) [DecidableEq t.den] (ha : DE X a Γ t x Γ1) (hb : DQ X b Γ1 t xs Γ2) (he : t.canEq = true := by rfl) (hd : t.dep ≤ 60 := by decide) : DC X .NotIn a b Γ (!decide (x ∈ xs)) Γ2 := fun F G σ H W Q q =>
  wpc_of (pc_op (op_notInQ (RoomG.u65 hr)) pe_wp pe_wp) (ha F G σ H W _ fun v G1 H1 s1 W1 r1 => hb F G1 σ H1 W1 _ fun q2 vs G2 H2 s2 W2 h1 h2 =>
    ⟨toPy t x, xs.map (toPy t), rep_dp W2.gh t v x (rep_mono s2 t v x r1), dpL_of W2.gh h1 h2, shaped_of hl hd, layAll.mpr hl2, q _ G2 H2 (s1.trans s2) W2 (by rw [if_pos rfl, any_dec he]; rfl)⟩)
end

/-! ### order -/
def ltL {α : Type} (eq lt : α → α → Bool) : List α → List α → Bool
  | [], [] => false
  | [], _ :: _ => true
  | _ :: _, [] => false
  | x :: xs, y :: ys => if eq x y = true then ltL eq lt xs ys else lt x y
/-- x < y -/
def ltT : (t : Ty) → t.den → t.den → Bool
  | .int, x, y => decide (x < y)
  | .bool, x, y => decide (b2z x < b2z y)
  | .str, x, y => decide (x < y)
  | .non, _, _ => false
  | .opt _, _, _ => false
  | .lst t, x, y => ltL (fun a b => PyData.eqv (toPy t a) (toPy t b)) (ltT t) x y
  | .tup t, x, y => ltL (fun a b => PyData.eqv (toPy t a) (toPy t b)) (ltT t) x y
  | .p2 a b, x, y => if PyData.eqv (toPy a x.1) (toPy a y.1) = true then ltT b x.2 y.2 else ltT a x.1 y.1
  | .p3 a b c, x, y => if PyData.eqv (toPy a x.1) (toPy a y.1) = true then (if PyData.eqv (toPy b x.2.1) (toPy b y.2.1) = true then ltT c x.2.2 y.2.2 else ltT b x.2.1 y.2.1) else ltT a x.1 y.1
  | _, _, _ => false
/-- things of the type can be put in order -/
def Ty.canLt : Ty → Bool
  | .int => true | .bool => true | .str => true
  | .lst t => t.canLt | .tup t => t.canLt
  | .p2 a b => a.canLt && b.canLt
  | .p3 a b c => a.canLt && b.canLt && c.canLt
  | _ => false
open PySem.W in
theorem alike_all {t : Ty} (f : ∀ x y : t.den, alike (toPy t x) (toPy t y) = true) : ∀ xs ys : List t.den, alikeAll (xs.map (toPy t)) (ys.map (toPy t)) = true
  | [], ys => by simp [alikeAll]
  | _ :: _, [] => by simp [alikeAll]
  | x :: xs, y :: ys => by simp [alikeAll, f x y, alike_all f xs ys]
open PySem.W in
theorem alike_of : ∀ (t : Ty), t.canLt = true → ∀ x y : t.den, alike (toPy t x) (toPy t y) = true
  | .int, _, _, _ => by simp [toPy, alike]
  | .bool, _, _, _ => by simp [toPy, alike]
  | .str, _, _, _ => by simp [toPy, alike]
  | .lst t, h, x, y => by simp only [toPy, alike]; exact alike_all (alike_of t h) x y
  | .tup t, h, x, y => by simp only [toPy, alike]; exact alike_all (alike_of t h) x y
  | .p2 a b, h, x, y => by
    simp only [Ty.canLt, Bool.and_eq_true] at h
    simp [toPy, alike, alikeAll, alike_of a h.1, alike_of b h.2]
  | .p3 a b c, h, x, y => by
    simp only [Ty.canLt, Bool.and_eq_true] at h
    simp [toPy, alike, alikeAll, alike_of a h.1.1, alike_of b h.1.2, alike_of c h.2]
  | .non, h, _, _ => by cases h
  | .opt _, h, _, _ => by cases h
  | .scr, h, _, _ => by cases h
  | .p4 .., h, _, _ => by cases h
  | .p5 .., h, _, _ => by cases h
  | .iu _, h, _, _ => by cases h
  | .si, h, _, _ => by cases h
open PySem.W in
theorem lt_all {t : Ty} (hc : t.canLt = true) (f : ∀ x y : t.den, dataLt (toPy t x) (toPy t y) = ltT t x y) : ∀ xs ys : List t.den, PyProof.Rows.lexLt itemOrd (keyToksAll (xs.map (toPy t))) (keyToksAll (ys.map (toPy t))) = ltL (fun a b => PyData.eqv (toPy t a) (toPy t b)) (ltT t) xs ys
  | [], [] => lex_irrefl _
  | [], y :: ys => by
    simp only [List.map_nil, List.map_cons, keyToksAll, ltL]
    rw [lex_atom (by simp) [] _]
    rfl
  | x :: xs, [] => by
    simp only [List.map_nil, List.map_cons, keyToksAll, ltL]
    rw [lex_atom (by simp) _ []]
    rfl
  | x :: xs, y :: ys => by
    simp only [List.map_cons, ltL]
    rw [dataLt_cons (alike_of t hc x y), lt_all hc f xs ys, f x y]
open PySem.W in
theorem lt_irr {x y : PyData} (h : alike x y = true) (e : PyData.eqv x y = true) : dataLt x y = false := by
  unfold dataLt
  rw [(toks_eqv x y h).1 e]
  exact lex_irrefl _
open PySem.W in
theorem lt_data : ∀ (t : Ty), t.canLt = true → ∀ x y : t.den, dataLt (toPy t x) (toPy t y) = ltT t x y
  | .int, _, x, y => dataLt_int x y
  | .bool, _, x, y => by
    show dataLt (.bool x) (.bool y) = _
    rw [dataLt_bool]
    cases x <;> cases y <;> rfl
  | .str, _, x, y => dataLt_str _ _
  | .lst t, h, x, y => by
    show dataLt (.list _) (.list _) = _
    rw [dataLt_list]
    exact lt_all (t := t) h (lt_data t h) x y
  | .tup t, h, x, y => by
    show dataLt (.tuple _) (.tuple _) = _
    rw [dataLt_tuple]
    exact lt_all (t := t) h (lt_data t h) x y
  | .p2 a b, h, x, y => by
    simp only [Ty.canLt, Bool.and_eq_true] at h
    show dataLt (.tuple _) (.tuple _) = _
    rw [dataLt_tuple, dataLt_cons (alike_of a h.1 _ _), dataLt_cons (alike_of b h.2 _ _), lt_data a h.1, lt_data b h.2]
    have e : PyProof.Rows.lexLt itemOrd (keyToksAll []) (keyToksAll []) = false := lex_irrefl _
    rw [e]
    show _ = (if PyData.eqv (toPy a x.1) (toPy a y.1) = true then ltT b x.2 y.2 else ltT a x.1 y.1)
    by_cases h2 : PyData.eqv (toPy b x.2) (toPy b y.2) = true
    · rw [if_pos h2, ← lt_data b h.2, lt_irr (alike_of b h.2 _ _) h2]
    · rw [if_neg h2]
  | .p3 a b c, h, x, y => by
    simp only [Ty.canLt, Bool.and_eq_true] at h
    show dataLt (.tuple _) (.tuple _) = _
    rw [dataLt_tuple, dataLt_cons (alike_of a h.1.1 _ _), dataLt_cons (alike_of b h.1.2 _ _), dataLt_cons (alike_of c h.2 _ _), lt_data a h.1.1, lt_data b h.1.2, lt_data c h.2]
    have e : PyProof.Rows.lexLt itemOrd (keyToksAll []) (keyToksAll []) = false := lex_irrefl _
    rw [e]
    show _ = (if PyData.eqv (toPy a x.1) (toPy a y.1) = true then (if PyData.eqv (toPy b x.2.1) (toPy b y.2.1) = true then ltT c x.2.2 y.2.2 else ltT b x.2.1 y.2.1) else ltT a x.1 y.1)
    by_cases h2 : PyData.eqv (toPy c x.2.2) (toPy c y.2.2) = true
    · rw [if_pos h2, ← lt_data c h.2, lt_irr (alike_of c h.2 _ _) h2]
    · rw [if_neg h2]
  | .non, h, _, _ => by cases h
  | .opt _, h, _, _ => by cases h
  | .scr, h, _, _ => by cases h
  | .p4 .., h, _, _ => by cases h
  | .p5 .., h, _, _ => by cases h
  | .iu _, h, _, _ => by cases h
  | .si, h, _, _ => by cases h
/-- at most, by < -/
def leT (t : Ty) (x y : t.den) : Bool := !ltT t y x
def sortT (t : Ty) (xs : List t.den) : List t.den := xs.mergeSort (leT t)
open PySem.W in
theorem le_data {t : Ty} (h : t.canLt = true) : dataLe false (toPy t) = leT t := by
  funext x y
  show (!dataLt (toPy t y) (toPy t x)) = _
  rw [lt_data t h]
  rfl
/-- tuples of two or more, or flat things: what sorted takes -/
def Ty.canSort : Ty → Bool
  | .p2 a b => a.canLt && b.canLt
  | .p3 a b c => a.canLt && b.canLt && c.canLt
  | .int => true | .bool => true | .str => true
  | .lst t => t.canLt
  | _ => false
theorem canLt_of {t : Ty} (h : t.canSort = true) : t.canLt = true := by
  cases t <;> first | exact h | cases h
open PySem.W in
theorem sortable {t : Ty} (h : t.canSort = true) (xs : List t.den) : Sortable (xs.map (toPy t)) := by
  cases t with
  | p2 a b => exact .tuples fun x => ⟨_, _, rfl⟩
  | p3 a b c => exact .tuples fun x => ⟨_, _, rfl⟩
  | int => exact .others fun x => ⟨fun z => (by simp [toPy] at z), fun ys z => (by simp [toPy] at z)⟩
  | bool => exact .others fun x => ⟨fun z => (by simp [toPy] at z), fun ys z => (by simp [toPy] at z)⟩
  | str => exact .others fun x => ⟨fun z => (by simp [toPy] at z), fun ys z => (by simp [toPy] at z)⟩
  | lst t => exact .others fun x => ⟨fun z => (by simp [toPy] at z), fun ys z => (by simp [toPy] at z)⟩
  | _ => cases h
section
variable {X : Cx} {a b e : Expr} {es : List Expr} {pos p : Pos} {Γ Γ1 Γ2 Γ3 : List Slot} {t u : Ty} {x y : t.den} {xs ys : List t.den}
open PySem.W in
theorem each_of {K : PySem.W.Frag} {G : Hp} : ∀ {vs : List V} {xs : List t.den} {us : List Value}, RepL K t G vs xs → Vals vs us → EachIs (fun u x => ∃ v, RelV v u ∧ Rep K t G v x) us xs
  | _, _, _, .nil, .nil => .nil
  | _, _, _, .cons r t, .cons r' t' => .cons ⟨_, r', r⟩ (each_of t t')
open PySem.W in
theorem each_back {K : PySem.W.Frag} {G : Hp} : ∀ {us : List Value} {xs : List t.den}, EachIs (fun u x => ∃ v, RelV v u ∧ Rep K t G v x) us xs → ∃ vs, RepL K t G vs xs ∧ Vals vs us
  | _, _, .nil => ⟨[], .nil, .nil⟩
  | _, _, .cons r t => by
    obtain ⟨v, h1, h2⟩ := r
    obtain ⟨vs, h3, h4⟩ := each_back t
    exact ⟨v :: vs, .cons h2 h3, .cons h1 h4⟩
/-- sorted(xs) -/
def rSortD (K : PySem.W.Frag) (t : Ty) : List V → Hp → VK → Prop := fun vs H Q => ∃ (a : Addr) (us : List V) (G : Hp) (xs : List t.den), vs = [V.ref a] ∧ SqL K H a us ∧ Same G H ∧ RepL K t G us xs ∧ Sz xs.length ∧
  ∀ (ws : List V) (p : Addr), RepL K t G ws (sortT t xs) → H p = none → Q (.ref p) (upd H p (.lst ws))
open PySem.W in
theorem cr_sortD {k : Nat} (hr : RoomG k X.A) (hc : t.canSort = true) (hd : t.dep ≤ 60) : CallR X (.builtin "sorted") (rSortD X.K t) := by
  intro pins s σ H vs us Q I r h
  obtain ⟨a, vs1, G, xs, rfl, hs, sg, rep, hz, q⟩ := h
  obtain ⟨its, rv, hl, _⟩ := I.list hs
  rw [Vals.ref1 r]
  have ee := each_of rep rv
  have hb := canLt_of hc
  refine sorted_data (vs := its) (R := fun u x => ∃ v, RelV v u ∧ Rep X.K t G v x) (enc := toPy t) (bs := xs) hl.isList ee (ee.mono fun u x ⟨v, h1, h2⟩ => Dp.reads I _ v u (rep_dp sg t v x h2) h1) (AllAlike.of (alike_of t hb)) (sortable hc xs) hz.le
    (fun b _ => by
      have h1 := hr.units
      have h2 := dep_le t b
      omega) fun out hlen ho => ?_
  rw [le_data hb] at ho
  obtain ⟨ws, h1, h2⟩ := each_back ho
  obtain ⟨ep, he'⟩ := PyProof.Rows.sortedAll_at s.heap its (List.toArray out)
  have hwl : ws.length ≤ sizeLine := by
    have e1 := pair_len h1
    rw [e1, List.length_mergeSort]; exact hz.le
  exact ⟨.ref _, upd H (s.heap.objs.size + 1) (.lst ws), I.laid (t' := s.toks) (fun _ _ => PyProof.Rows.sortedAll_old) (Nat.le_succ _) ⟨hwl, out, ep, h2, he'⟩, rfl, q ws _ h1 (I.hok.fresh (Nat.le_succ _))⟩
theorem do_sorted {k : Nat} (hr : RoomG k X.A) (hm : X.mg "sorted" = none) (hz : Sz xs.length) (h : DL X e Γ t xs Γ1) (hc : t.canSort = true := by rfl) (hd : t.dep ≤ 60 := by decide) (hg : Gl X "sorted" := by rfl) (hs : starEach [e] X.env = (false, eval e X.env) :: starEach [] X.env := by rfl) (hpl : (backTo pos (starEach [] X.env)).any (·.1) = false := by rfl) : DO X (.Call (.Name "sorted" p) [e] [] pos) Γ (.lst t (sortT t xs)) Γ1 := fun F G σ H W Q q =>
  wpe_of (pe_callB (cr_sortD hr hc hd) hg hm (by decide +kernel) pa_wp (by decide) (by decide) hs hpl) (wpa_one hs (h F G σ H W _ fun a vs G1 H1 s1 W1 h1 h2 => ⟨a, vs, G1, xs, rfl, h1, W1.gh, h2, hz, fun ws p hw hp => q p _ G1 _ s1 (W1.new hp) (W1.tn hp) ⟨ws, rfl, hw⟩⟩))
/-- x < y of tuples -/
def rLtD (K : PySem.W.Frag) (t : Ty) : R2 := fun x y H Q => ∃ (d e : t.den), Dp K H x (toPy t d) ∧ Dp K H y (toPy t e) ∧ Q (.bl (ltT t d e)) H
open PySem.W in
theorem op_ltD {k : Nat} (hr : RoomG k X.A) (hc : t.canLt = true) (hd : t.dep ≤ 60) : OpR X (compareOp .Lt) (rLtD X.K t) := by
  intro pins s σ H x y v u Q I rx ry h
  obtain ⟨d, e, h1, h2, q⟩ := h
  obtain ⟨as, r1⟩ := Dp.reads I _ x v h1 rx
  obtain ⟨bs, r2⟩ := Dp.reads I _ y u h2 ry
  have hne : toPy t d ≠ .none := by
    cases t <;> first | (simp [toPy]; done) | cases hc
  have key := rcLt_alike (toPy t d) (toPy t e) X.A s v u as bs r1 r2 (alike_of t hc d e) hne (by
    have h1 := hr.units
    have h2 := dep_le t d
    omega)
  show wpAny _ _ (richCompare .Lt v u) _ _ _
  exact key _ _ _ _ ⟨.bl _, H, I, rfl, by rw [lt_data t hc]; exact q⟩
end
end Dn

set_option Elab.async false
set_option linter.all false
set_option maxRecDepth 100000
set_option maxHeartbeats 1000000
/-! Dn, part 10: methods of owned lists; texts; any, all, sum; isinstance; several targets. -/
namespace Dn
open PySem PySem.Spec PyProof.Rows L2 TL

section
variable {K : PySem.W.Frag} {F : Fx} {G H : Hp} {σ : L2.St} {Γ : List Slot} {i : Nat} {t : Ty} {xs xs' : List t.den} {pin : Bool}
theorem Wd.mutate {p : Addr} {vs' : List V} (W : Wd K F G σ H Γ) (hi : Γ[i]? = some (.ow pin (.lst t xs))) (hp : σ[i]? = some (some (.ref p))) (r : RepL K t G vs' xs') : Wd K F G σ (upd H p (.lst vs')) (Γ.set i (.ow pin (.lst t xs'))) := by
  obtain ⟨b, ho, e1, e2, e3, e4, e5, e6⟩ := W.sl i _ hi
  rw [hp] at e1; cases e1
  refine W.callB hi hp (Same.refl G) (fun c o e => ?_) (fun c o ne e => ?_) (fun c o _ _ n => n) upd_same ⟨vs', rfl, r⟩
  · rw [upd_ne (ne_of_none e e2)]; exact W.gh c o e
  · rw [upd_ne ne]; exact e
theorem Wd.owned (W : Wd K F G σ H Γ) (hi : Γ[i]? = some (.ow pin (.lst t xs))) : ∃ p vs, σ[i]? = some (some (.ref p)) ∧ H p = some (.lst vs) ∧ RepL K t G vs xs := by
  obtain ⟨b, ho, e1, e2, e3, e4, e5, e6⟩ := W.sl i _ hi
  obtain ⟨vs, rfl, r⟩ := e5
  exact ⟨b, vs, e1, e4, r⟩
theorem Wd.owName (W : Wd K F G σ H Γ) (h0 : (Γ[i]?.map Slot.isLst) = some true) : ∃ p, σ[i]? = some (some (.ref p)) := by
  cases e : Γ[i]? with
  | none => rw [e] at h0; cases h0
  | some s =>
    cases s with
    | ow pin o => obtain ⟨p, _, h1, _⟩ := W.sl i _ e; exact ⟨p, h1⟩
    | _ => rw [e] at h0; cases h0
theorem Wd.tyL (W : Wd K F G σ H Γ) {p : Addr} (h0 : (Γ[i]?.map Slot.isLst) = some true) (hp : σ[i]? = some (some (.ref p))) : ∃ vs, H p = some (.lst vs) := by
  cases e : Γ[i]? with
  | none => rw [e] at h0; cases h0
  | some s =>
    cases s with
    | ow pin o =>
      cases o with
      | lst t xs =>
        obtain ⟨p', vs, h1, h2, _⟩ := W.owned e
        rw [hp] at h1; cases h1
        exact ⟨vs, h2⟩
      | dct t kvs => rw [e] at h0; cases h0
      | dtt k t kvs => rw [e] at h0; cases h0
      | dks t kvs => rw [e] at h0; cases h0
    | _ => rw [e] at h0; cases h0
end
section
variable {X : Cx} {ρ : Type} {R : RI ρ} {a b e : Expr} {es : List Expr} {pos p cpos apos npos : Pos} {Γ Γ1 Γ2 Γ3 : List Slot} {t u : Ty} {xs ys : List t.den} {n : Str}
/-- n.append(e) -/
theorem ds_app (i : Nat) {pin : Bool} {x : t.den} (hz : Sz xs.length) (he : DE X e Γ t x Γ1) (h : Γ1[i]? = some (.ow pin (.lst t xs)) := by rfl) (h0 : (Γ[i]?.map Slot.isLst) = some true := by rfl) (hN : X.N[i]? = some n := by rfl) (hv : Vis X.env.scope n := by first | exact Or.inl rfl | exact Or.inr (Or.inl rfl) | exact Or.inr (Or.inr rfl))
    (hd : (n == ("__debug__" : Str)) = false := by decide) (hcd : (n == ("__classdict__" : Str)) = false := by decide) (hbase : attributeBase (.Name n npos) "append" X.env (eval (.Name n npos) X.env) = eval (.Name n npos) X.env := by rfl)
    (hfew : ((backTo cpos (starEach [e] X.env)).all (fun x => !x.1) && (backToKw cpos (keywordEach [] X.env)).all (fun x => x.1.isSome) && decide (([e] : List Expr).length + ([] : List Keyword).length + (if ([] : List Keyword).isEmpty then 0 else 1) < 30)) = true := by rfl)
    (hline : (apos.endLine == cpos.line) = true := by rfl) (hs : starEach [e] X.env = (false, eval e X.env) :: starEach [] X.env := by rfl) (hpl : (backTo cpos (starEach [] X.env)).any (·.1) = false := by rfl) (hsw : swapsWith (.Call (.Attribute (.Name n npos) "append" apos) [e] [] cpos) none pos.line X.env = pure false := by rfl) :
    DS X R (.Expr (.Call (.Attribute (.Name n npos) "append" apos) [e] [] cpos) pos) Γ (.nx (Γ1.set i (.ow pin (.lst t (xs ++ [x]))))) := fun F G σ H W D q => by
  obtain ⟨p, hp⟩ := W.owName h0
  obtain ⟨vs0, hvs0⟩ := W.tyL h0 hp
  refine wps_of (ps_expr (pe_bm PySem.F.plainAttrs_list PySem.F.slot_list_append PySem.F.type_list_append mt_append (pe_var hN hv hd hcd) pa_wp hbase hfew hline hs hpl) hsw) ⟨.ref p, hp, .inl ⟨rfl, vs0, .inl (.inl hvs0)⟩, wpa_one hs (he F G σ H W _ fun v G1 H1 s1 W1 r1 => ?_)⟩
  obtain ⟨p', vs, h1, h2, h3⟩ := W1.owned h
  rw [hp] at h1; cases h1
  exact ⟨p, vs, v, rfl, rfl, h2, by rw [pair_len h3]; exact hz.lt, q σ G1 _ s1 (W1.mutate h hp (pair_app h3 (.cons r1 .nil)))⟩
/-- n.extend(a new list) -/
theorem ds_ext (i : Nat) {pin : Bool} (hz : Sz (xs.length + ys.length)) (he : DO X e Γ (.lst t ys) Γ1) (h : Γ1[i]? = some (.ow pin (.lst t xs)) := by rfl) (h0 : (Γ[i]?.map Slot.isLst) = some true := by rfl) (hN : X.N[i]? = some n := by rfl) (hv : Vis X.env.scope n := by first | exact Or.inl rfl | exact Or.inr (Or.inl rfl) | exact Or.inr (Or.inr rfl))
    (hd : (n == ("__debug__" : Str)) = false := by decide) (hcd : (n == ("__classdict__" : Str)) = false := by decide) (hbase : attributeBase (.Name n npos) "extend" X.env (eval (.Name n npos) X.env) = eval (.Name n npos) X.env := by rfl)
    (hfew : ((backTo cpos (starEach [e] X.env)).all (fun x => !x.1) && (backToKw cpos (keywordEach [] X.env)).all (fun x => x.1.isSome) && decide (([e] : List Expr).length + ([] : List Keyword).length + (if ([] : List Keyword).isEmpty then 0 else 1) < 30)) = true := by rfl)
    (hline : (apos.endLine == cpos.line) = true := by rfl) (hs : starEach [e] X.env = (false, eval e X.env) :: starEach [] X.env := by rfl) (hpl : (backTo cpos (starEach [] X.env)).any (·.1) = false := by rfl) (hsw : swapsWith (.Call (.Attribute (.Name n npos) "extend" apos) [e] [] cpos) none pos.line X.env = pure false := by rfl) :
    DS X R (.Expr (.Call (.Attribute (.Name n npos) "extend" apos) [e] [] cpos) pos) Γ (.nx (Γ1.set i (.ow pin (.lst t (xs ++ ys))))) := fun F G σ H W D q => by
  obtain ⟨p, hp⟩ := W.owName h0
  obtain ⟨vs0, hvs0⟩ := W.tyL h0 hp
  refine wps_of (ps_expr (pe_bm PySem.F.plainAttrs_list PySem.F.slot_list_extend PySem.F.type_list_extend mt_extend (pe_var hN hv hd hcd) pa_wp hbase hfew hline hs hpl) hsw) ⟨.ref p, hp, .inl ⟨rfl, vs0, .inl (.inl hvs0)⟩, wpa_one hs (he F G σ H W _ fun p2 ho G1 H1 s1 W1 hT ok => ?_)⟩
  obtain ⟨ws, rfl, r⟩ := ok
  have held := W1.held.1
  have W2 := W1.drop hT
  obtain ⟨p', vs, h1, h2, h3⟩ := W2.owned h
  rw [hp] at h1; cases h1
  exact ⟨p, p2, vs, ws, rfl, rfl, h2, held, by rw [pair_len h3, pair_len r]; exact hz.le, q σ G1 _ s1 (W2.mutate h hp (pair_app h3 r))⟩
/-- n.pop() -/
theorem de_pop (i : Nat) (d : t.den) {pin : Bool} (hne : 0 < xs.length) (h : Γ[i]? = some (.ow pin (.lst t xs)) := by rfl) (hN : X.N[i]? = some n := by rfl) (hv : Vis X.env.scope n := by first | exact Or.inl rfl | exact Or.inr (Or.inl rfl) | exact Or.inr (Or.inr rfl))
    (hd : (n == ("__debug__" : Str)) = false := by decide) (hcd : (n == ("__classdict__" : Str)) = false := by decide) (hbase : attributeBase (.Name n npos) "pop" X.env (eval (.Name n npos) X.env) = eval (.Name n npos) X.env := by rfl) (hline : (apos.endLine == cpos.line) = true := by rfl) :
    DE X (.Call (.Attribute (.Name n npos) "pop" apos) [] [] cpos) Γ t (get d xs (-1)) (Γ.set i (.ow pin (.lst t xs.dropLast))) := fun F G σ H W Q q => by
  obtain ⟨p, vs, h1, h2, h3⟩ := W.owned h
  have el := pair_len h3
  have e1 : ix xs.length (-1) = xs.length - 1 := by unfold ix; rw [if_neg (by omega)]; omega
  obtain ⟨v, e2, e3⟩ := pair_get h3 (i := xs.length - 1) (List.getElem?_eq_getElem (by omega))
  refine wpe_of (pe_bm0 PySem.F.plainAttrs_list PySem.F.slot_list_pop PySem.F.type_list_pop mt_pop (pe_var hN hv hd hcd) hbase hline) ⟨.ref p, h1, .inl ⟨rfl, vs, .inl (.inl h2)⟩, p, vs, v, rfl, rfl, h2, by rw [el]; exact e2, ?_⟩
  refine q v G _ (Same.refl G) (W.mutate h h1 ?_) ?_
  · rw [List.dropLast_eq_take, List.dropLast_eq_take, el]; exact pair_take _ h3
  · unfold get
    rw [e1, List.getElem?_eq_getElem (by omega)]
    exact e3
/-- n.pop(k) -/
theorem de_popAt (i : Nat) (d : t.den) {pin : Bool} {k : Int} (hk : IxOk xs.length k) (hz : Sz xs.length) (he : DE X e Γ .int k Γ1) (h : Γ1[i]? = some (.ow pin (.lst t xs)) := by rfl) (h0 : (Γ[i]?.map Slot.isLst) = some true := by rfl) (hN : X.N[i]? = some n := by rfl) (hv : Vis X.env.scope n := by first | exact Or.inl rfl | exact Or.inr (Or.inl rfl) | exact Or.inr (Or.inr rfl))
    (hd : (n == ("__debug__" : Str)) = false := by decide) (hcd : (n == ("__classdict__" : Str)) = false := by decide) (hbase : attributeBase (.Name n npos) "pop" X.env (eval (.Name n npos) X.env) = eval (.Name n npos) X.env := by rfl)
    (hfew : ((backTo cpos (starEach [e] X.env)).all (fun x => !x.1) && (backToKw cpos (keywordEach [] X.env)).all (fun x => x.1.isSome) && decide (([e] : List Expr).length + ([] : List Keyword).length + (if ([] : List Keyword).isEmpty then 0 else 1) < 30)) = true := by rfl)
    (hline : (apos.endLine == cpos.line) = true := by rfl) (hs : starEach [e] X.env = (false, eval e X.env) :: starEach [] X.env := by rfl) (hpl : (backTo cpos (starEach [] X.env)).any (·.1) = false := by rfl) :
    DE X (.Call (.Attribute (.Name n npos) "pop" apos) [e] [] cpos) Γ t (get d xs k) (Γ1.set i (.ow pin (.lst t (xs.eraseIdx (ix xs.length k))))) := fun F G σ H W Q q => by
  obtain ⟨p, hp⟩ := W.owName h0
  obtain ⟨vs0, hvs0⟩ := W.tyL h0 hp
  refine wpe_of (pe_bm PySem.F.plainAttrs_list PySem.F.slot_list_pop PySem.F.type_list_pop mt_popAt (pe_var hN hv hd hcd) pa_wp hbase hfew hline hs hpl) ⟨.ref p, hp, .inl ⟨rfl, vs0, .inl (.inl hvs0)⟩, wpa_one hs (he F G σ H W _ fun v G1 H1 s1 W1 r1 => ?_)⟩
  obtain ⟨p', vs, h1, h2, h3⟩ := W1.owned h
  rw [hp] at h1; cases h1
  have el := pair_len h3
  obtain ⟨e1, e2⟩ := ixN_ok hk
  obtain ⟨w, e3, e4⟩ := pair_get h3 (List.getElem?_eq_getElem e2)
  have hz' : xs.length ≤ 100000 := hz
  obtain ⟨k1, k2⟩ := hk
  refine ⟨p, vs, k, ix xs.length k, w, rfl, by rw [show v = _ from r1], h2, by omega, by omega, by rw [el]; exact (ixN_seq e1).1, e3, ?_⟩
  refine q w G1 _ s1 (W1.mutate h hp (pair_erase _ h3)) ?_
  unfold get
  rw [List.getElem?_eq_getElem e2]
  exact e4
/-- n[k] = e -/
theorem ds_setix (i : Nat) {pin : Bool} {k : Int} {x : t.den} {tpos : Pos} {ke : Expr} (hk : IxOk xs.length k) (he : DE X e Γ t x Γ1) (hke : DE X ke Γ1 .int k Γ2) (h : Γ2[i]? = some (.ow pin (.lst t xs)) := by rfl) (h0 : (Γ1[i]?.map Slot.isLst) = some true := by rfl) (hN : X.N[i]? = some n := by rfl) (hv : Vis X.env.scope n := by first | exact Or.inl rfl | exact Or.inr (Or.inl rfl) | exact Or.inr (Or.inr rfl))
    (hd : (n == ("__debug__" : Str)) = false := by decide) (hcd : (n == ("__classdict__" : Str)) = false := by decide)
    (ha : ∀ v, assign (.Subscript (.Name n npos) ke tpos) X.env v = (do
      let ov ← holding [v] (eval (.Name n npos) X.env)
      let iv ← holding [v, ov] (eval ke X.env)
      standAt tpos
      holding [v, ov, iv] (setItem ov iv v)
      release [v, ov, iv] []) := by intro _; rfl)
    (hs : swapsWithSole [.Subscript (.Name n npos) ke tpos] e pos.line X.env = pure false := by rfl) (hw : swappedStores [.Subscript (.Name n npos) ke tpos] e X.env = pure none := by rfl) (h1 : (assignEach [.Subscript (.Name n npos) ke tpos] X.env).map (·.2) = [assign (.Subscript (.Name n npos) ke tpos) X.env] := by rfl) :
    DS X R (.Assign [.Subscript (.Name n npos) ke tpos] e pos) Γ (.nx (Γ2.set i (.ow pin (.lst t (xs.set (ix xs.length k) x))))) := fun F G σ H W D q =>
  wps_of (ps_asg pe_wp (pg_sub (pe_var hN hv hd hcd) pe_wp set_list ha) hs hw h1) (he F G σ H W _ fun v G1 H1 s1 W1 r1 => by
    obtain ⟨p, hp⟩ := W1.owName h0
    refine ⟨.ref p, hp, hke F G1 σ H1 W1 _ fun w G2 H2 s2 W2 r2 => ?_⟩
    obtain ⟨p', vs, e1, e2, e3⟩ := W2.owned h
    rw [hp] at e1; cases e1
    obtain ⟨e4, e5⟩ := ixN_ok hk
    exact ⟨p, vs, k, ix xs.length k, rfl, r2, e2, by rw [pair_len e3]; exact e4, q σ G2 _ (s1.trans s2) (W2.mutate h hp (pair_set (rep_mono s2 t v x r1) _ e3))⟩)

/-! ### any, all, sum, join -/
theorem repL_bool {K : PySem.W.Frag} {G : Hp} : ∀ {vs : List V} {xs : List Bool}, RepL K .bool G vs xs → vs = xs.map V.bl
  | _, _, .nil => rfl
  | _, _, .cons r t => by rw [repL_bool t, List.map_cons, show _ = V.bl _ from r]
theorem repL_int {K : PySem.W.Frag} {G : Hp} : ∀ {vs : List V} {xs : List Int}, RepL K .int G vs xs → vs = xs.map V.int
  | _, _, .nil => rfl
  | _, _, .cons r t => by rw [repL_int t, List.map_cons, show _ = V.int _ from r]
theorem repL_str {K : PySem.W.Frag} {G : Hp} : ∀ {vs : List V} {xs : List (List Nat)}, RepL K .str G vs xs → vs = (xs.map fun x => (⟨x.toArray⟩ : Str)).map V.str
  | _, _, .nil => rfl
  | _, _, .cons r t => by rw [repL_str t, List.map_cons, show _ = vS _ from r]; rfl
theorem de_all {xs : List Bool} (hm : X.mg "all" = none) (h : DL X e Γ .bool xs Γ1) (hc : X.calm = true := by rfl) (hg : Gl X "all" := by rfl) (hs : starEach [e] X.env = (false, eval e X.env) :: starEach [] X.env := by rfl) (hpl : (backTo pos (starEach [] X.env)).any (·.1) = false := by rfl) : DE X (.Call (.Name "all" p) [e] [] pos) Γ .bool (xs.all id) Γ1 := fun F G σ H W Q q =>
  wpe_of (pe_callB (cr_all hc) hg hm (by decide +kernel) pa_wp (by decide) (by decide) hs hpl) (wpa_one hs (h F G σ H W _ fun a vs G1 H1 s1 W1 h1 h2 => ⟨a, xs, rfl, by rw [← repL_bool h2]; exact h1, q _ G1 H1 s1 W1 rfl⟩))
theorem de_any {xs : List Bool} (hm : X.mg "any" = none) (h : DL X e Γ .bool xs Γ1) (hc : X.calm = true := by rfl) (hg : Gl X "any" := by rfl) (hs : starEach [e] X.env = (false, eval e X.env) :: starEach [] X.env := by rfl) (hpl : (backTo pos (starEach [] X.env)).any (·.1) = false := by rfl) : DE X (.Call (.Name "any" p) [e] [] pos) Γ .bool (xs.any id) Γ1 := fun F G σ H W Q q =>
  wpe_of (pe_callB (cr_any hc) hg hm (by decide +kernel) pa_wp (by decide) (by decide) hs hpl) (wpa_one hs (h F G σ H W _ fun a vs G1 H1 s1 W1 h1 h2 => ⟨a, xs, rfl, by rw [← repL_bool h2]; exact h1, q _ G1 H1 s1 W1 rfl⟩))
theorem de_sum {xs : List Int} (hm : X.mg "sum" = none) (h : DL X e Γ .int xs Γ1) (hc : X.calm = true := by rfl) (hg : Gl X "sum" := by rfl) (hs : starEach [e] X.env = (false, eval e X.env) :: starEach [] X.env := by rfl) (hpl : (backTo pos (starEach [] X.env)).any (·.1) = false := by rfl) : DE X (.Call (.Name "sum" p) [e] [] pos) Γ .int xs.sum Γ1 := fun F G σ H W Q q =>
  wpe_of (pe_callB (cr_sum hc) hg hm (by decide +kernel) pa_wp (by decide) (by decide) hs hpl) (wpa_one hs (h F G σ H W _ fun a vs G1 H1 s1 W1 h1 h2 => ⟨a, xs, rfl, by rw [← repL_int h2]; exact h1, q _ G1 H1 s1 W1 rfl⟩))
/-- sep.join(xs) -/
def joinS (s : List Nat) (xs : List (List Nat)) : List Nat := joinL s xs
def SzJ (s : List Nat) (xs : List (List Nat)) : Prop := (xs.map List.length).sum + xs.length * s.length ≤ 100000
theorem de_join {s : List Nat} {xs : List (List Nat)} (hz : SzJ s xs) (ha : DE X a Γ .str s Γ1) (hb : DQ X b Γ1 .str xs Γ2) (hs : starEach [b] X.env = [(false, eval b X.env)] := by rfl) (hbase : attributeBase a "join" X.env (eval a X.env) = eval a X.env := by rfl) (hline : (apos.endLine == pos.line) = true := by rfl) :
    DE X (.Call (.Attribute a "join" apos) [b] [] pos) Γ .str (joinS s xs) Γ2 := fun F G σ H W Q q =>
  wpe_of (pe_join pe_wp pe_wp hs hbase hline) (ha F G σ H W _ fun v G1 H1 s1 W1 r1 => ⟨⟨_, r1⟩, hb F G1 σ H1 W1 _ fun q2 vs G2 H2 s2 W2 h1 h2 => by
    refine ⟨⟨s.toArray⟩, q2, xs.map fun x => (⟨x.toArray⟩ : Str), r1, rfl, by rw [← repL_str h2]; exact h1, ?_, q _ G2 H2 (s1.trans s2) W2 ?_⟩
    · have e1 : ((xs.map fun x => (⟨x.toArray⟩ : Str)).map (·.length)) = xs.map List.length := by
        rw [List.map_map]
        apply List.map_congr_left
        intro x _
        exact len_mk x
      rw [e1, List.length_map, len_mk]
      have hz' : (xs.map List.length).sum + xs.length * s.length ≤ 100000 := hz
      omega
    · show V.str _ = vS _
      unfold vS joinS
      congr 1
      apply ext_tl
      rw [join_eq, tl_join, List.map_map]
      have e2 : (xs.map (tl ∘ fun x => (⟨x.toArray⟩ : Str))) = xs := by
        have : (tl ∘ fun x => (⟨x.toArray⟩ : Str)) = (id : List Nat → List Nat) := rfl
        rw [this, List.map_id]
      rw [e2]⟩)

/-! ### finding in texts -/
/-- the first place at which y stands in x -/
def sfind (x y : List Nat) : Option Nat := (List.range (x.length + 1)).find? fun i => (x.drop i).take y.length == y
def findZ (x y : List Nat) : Int := match sfind x y with
  | some i => (i : Int)
  | none => -1
theorem at_list {x y : List Nat} {i : Nat} (hi : i ≤ x.length) : StrLaws.At (⟨x.toArray⟩ : Str) ⟨y.toArray⟩ x.length i ↔ ((x.drop i).take y.length == y) = true := by
  unfold StrLaws.At
  rw [StrLaws.subAt_eq, len_mk]
  show (i + y.length ≤ x.length ∧ ((x.drop i).take y.length == y) = true) ↔ _
  constructor
  · exact fun h => h.2
  · intro h
    refine ⟨?_, h⟩
    have e := congrArg List.length (eq_of_beq h)
    rw [List.length_take, List.length_drop] at e
    omega
theorem find_range_least {p : Nat → Bool} {n k : Nat} (h : k < n) (hk : p k = true) (hb : ∀ j, j < k → p j = false) : (List.range n).find? p = some k := by
  induction n with
  | zero => omega
  | succ n ih =>
    rw [List.range_succ, List.find?_append]
    by_cases e : k < n
    · rw [ih e]; rfl
    · have e : k = n := by omega
      subst e
      have : (List.range k).find? p = none := List.find?_eq_none.mpr fun j hj => by rw [hb j (List.mem_range.mp hj)]; exact Bool.false_ne_true
      rw [this]
      simp [hk]
theorem occ_sfind (x y : List Nat) : (Builtin.Str.occurrences (⟨x.toArray⟩ : Str) ⟨y.toArray⟩ 0 (⟨x.toArray⟩ : Str).length 1).head? = sfind x y := by
  have hl := len_mk x
  rcases StrLaws.occ_head (⟨x.toArray⟩ : Str) ⟨y.toArray⟩ 1 (Nat.le_refl 1) with ⟨h0, hn⟩ | ⟨i, r, h0, hi, hn⟩
  · rw [h0]
    refine (List.find?_eq_none.mpr fun i hi q => ?_).symm
    rw [hl] at hn
    exact hn i ((at_list (by have := List.mem_range.mp hi; omega)).mpr q)
  · rw [h0]
    rw [hl] at hi hn
    have hi' : i ≤ x.length := by have := hi.1; omega
    refine (find_range_least (by omega) ((at_list hi').mp hi) fun j hj => ?_).symm
    cases q : ((x.drop j).take y.length == y) with
    | false => rfl
    | true => exact absurd ((at_list (by omega)).mpr q) (hn j hj)
theorem de_find {x y : List Nat} (ha : DE X a Γ .str x Γ1) (hb : DE X b Γ1 .str y Γ2) (hs : starEach [b] X.env = [(false, eval b X.env)] := by rfl) (hbase : attributeBase a "find" X.env (eval a X.env) = eval a X.env := by rfl) (hline : (apos.endLine == pos.line) = true := by rfl) :
    DE X (.Call (.Attribute a "find" apos) [b] [] pos) Γ .int (findZ x y) Γ2 := fun F G σ H W Q q =>
  wpe_of (pe_m1 PySem.F.slot_str_find PySem.F.type_str_find mt_find pe_wp pe_wp hs hbase hline) (ha F G σ H W _ fun v G1 H1 s1 W1 r1 => ⟨⟨_, r1⟩, hb F G1 σ H1 W1 _ fun w G2 H2 s2 W2 r2 => ⟨⟨x.toArray⟩, ⟨y.toArray⟩, r1, by rw [show w = _ from r2]; rfl, q _ G2 H2 (s1.trans s2) W2 (by
    show V.int _ = V.int _
    congr 1
    have e := occ_sfind x y
    unfold Txt.find findZ
    rw [← e]
    cases Builtin.Str.occurrences (⟨x.toArray⟩ : Str) ⟨y.toArray⟩ 0 (⟨x.toArray⟩ : Str).length 1 <;> rfl)⟩⟩)
/-- x.index(y), y stands in x -/
theorem de_sindex {x y : List Nat} (hf : (sfind x y).isSome = true) (ha : DE X a Γ .str x Γ1) (hb : DE X b Γ1 .str y Γ2) (hs : starEach [b] X.env = [(false, eval b X.env)] := by rfl) (hbase : attributeBase a "index" X.env (eval a X.env) = eval a X.env := by rfl) (hline : (apos.endLine == pos.line) = true := by rfl) :
    DE X (.Call (.Attribute a "index" apos) [b] [] pos) Γ .int (findZ x y) Γ2 := fun F G σ H W Q q =>
  wpe_of (pe_m1 PySem.F.slot_str_index PySem.F.type_str_index mt_sindex pe_wp pe_wp hs hbase hline) (ha F G σ H W _ fun v G1 H1 s1 W1 r1 => ⟨⟨_, r1⟩, hb F G1 σ H1 W1 _ fun w G2 H2 s2 W2 r2 => by
    have e := occ_sfind x y
    cases e2 : Builtin.Str.occurrences (⟨x.toArray⟩ : Str) ⟨y.toArray⟩ 0 (⟨x.toArray⟩ : Str).length 1 with
    | nil => rw [e2] at e; rw [← e] at hf; cases hf
    | cons i r =>
      rw [e2] at e
      refine ⟨⟨x.toArray⟩, ⟨y.toArray⟩, i, r, r1, by rw [show w = _ from r2]; rfl, e2, q _ G2 H2 (s1.trans s2) W2 ?_⟩
      show V.int _ = V.int _
      unfold findZ
      rw [← e]
      rfl⟩)
/-- y in x, texts -/
theorem dc_inS {x y : List Nat} (ha : DE X a Γ .str y Γ1) (hb : DE X b Γ1 .str x Γ2) : DC X .In a b Γ (sfind x y).isSome Γ2 := fun F G σ H W Q q =>
  wpc_of (pc_op op_in_str pe_wp pe_wp) (ev_op (τ := .bool) (c := (sfind x y).isSome) ha hb (fun G H v w Q _ r1 r2 q => ⟨⟨y.toArray⟩, ⟨x.toArray⟩, r1, r2, q _ (by
    show V.bl _ = V.bl _
    congr 1
    rw [← occ_sfind x y]
    cases Builtin.Str.occurrences (⟨x.toArray⟩ : Str) ⟨y.toArray⟩ 0 (⟨x.toArray⟩ : Str).length 1 <;> rfl)⟩) F G σ H W Q q)
theorem dc_ninS {x y : List Nat} (ha : DE X a Γ .str y Γ1) (hb : DE X b Γ1 .str x Γ2) : DC X .NotIn a b Γ (!(sfind x y).isSome) Γ2 := fun F G σ H W Q q =>
  wpc_of (pc_op op_notin_str pe_wp pe_wp) (ev_op (τ := .bool) (c := !(sfind x y).isSome) ha hb (fun G H v w Q _ r1 r2 q => ⟨⟨y.toArray⟩, ⟨x.toArray⟩, r1, r2, q _ (by
    show V.bl _ = V.bl _
    congr 1
    rw [← occ_sfind x y]
    cases Builtin.Str.occurrences (⟨x.toArray⟩ : Str) ⟨y.toArray⟩ 0 (⟨x.toArray⟩ : Str).length 1 <;> rfl)⟩) F G σ H W Q q)

/-! ### isinstance -/
def Ty.pyName : Ty → Option String
  | .int => some "int" | .bool => some "bool" | .str => some "str" | .non => some "NoneType"
  | .opt _ => none | .iu _ => none | .si => none
  | .scr => none
  | .lst _ => some "list"
  | _ => some "tuple"
theorem tyx_list {K : PySem.W.Frag} {H : Hp} {q : Addr} {vs : List V} (h : Rd H q (.lst vs)) : TyX K H (.ref q) (.type "list") := by
  rcases h with h | ⟨o, h⟩
  · exact .base (.lst h)
  · exact .base (.frz h)
theorem tyx_tup {K : PySem.W.Frag} {H : Hp} {q : Addr} {vs : List V} (h : SqT K H q vs) : TyX K H (.ref q) (.type "tuple") := by
  rcases h with (h | ⟨o, h⟩) | ⟨o, its, m, h1, h2, h3, h4, h5⟩
  · exact .base (.tup h)
  · exact .fTuple h
  · exact .kTuple h1 h2
theorem tyx_of {K : PySem.W.Frag} {G H : Hp} (sg : Same G H) : ∀ (t : Ty) (s : String) (v : V) (x : t.den), t.pyName = some s → Rep K t G v x → TyX K H v (.type s)
  | .int, _, _, _, e, r => by cases e; rw [show _ = _ from r]; exact .base (.int _)
  | .bool, _, _, _, e, r => by cases e; rw [show _ = _ from r]; exact .base (.bl _)
  | .str, _, _, _, e, r => by cases e; rw [show _ = _ from r]; exact .base (.str _)
  | .non, _, _, _, e, r => by cases e; rw [show _ = _ from r]; exact .base .non
  | .opt _, _, _, _, e, _ => by cases e
  | .scr, _, _, _, e, _ => by cases e
  | .lst t, _, _, _, e, ⟨a, vs, h1, h2, _⟩ => by cases e; subst h1; exact tyx_list (rd_mono sg h2)
  | .tup t, _, _, _, e, ⟨a, vs, h1, h2, _⟩ => by cases e; subst h1; exact tyx_tup (sqt_mono sg h2.t)
  | .iu t, _, _, _, e, _ => by cases e
  | .si, _, _, _, e, _ => by cases e
  | .p2 .., _, _, _, e, ⟨p, _, _, h1, h2, _⟩ => by cases e; subst h1; exact tyx_tup (sqt_mono sg (tT h2))
  | .p3 .., _, _, _, e, ⟨p, _, _, _, h1, h2, _⟩ => by cases e; subst h1; exact tyx_tup (sqt_mono sg (tT h2))
  | .p4 .., _, _, _, e, ⟨p, _, _, _, _, h1, h2, _⟩ => by cases e; subst h1; exact tyx_tup (sqt_mono sg h2)
  | .p5 .., _, _, _, e, ⟨p, _, _, _, _, _, h1, h2, _⟩ => by cases e; subst h1; exact tyx_tup (sqt_mono sg h2)
theorem de_isi {x : t.den} {s T : String} {r : Bool} {v : Str} {p2 : Pos} (hm : X.mg "isinstance" = none) (hmT : X.mg v = none) (h : DE X e Γ t x Γ1) (hb : bootBuiltins v = some (.type T) := by decide +kernel) (hk : kitB s T = some r := by decide +kernel) (hn : t.pyName = some s := by rfl) (hg : Gl X "isinstance" := by rfl) (hgT : Gl X v := by rfl)
    (hnn : v ≠ "__name__" := by decide) (hdb : (v == ("__debug__" : Str)) = false := by decide)
    (hs : starEach [e, .Name v p2] X.env = (false, eval e X.env) :: starEach [.Name v p2] X.env := by rfl) (hs2 : starEach [.Name v p2] X.env = (false, eval (.Name v p2) X.env) :: starEach [] X.env := by rfl) (hpl : (backTo pos (starEach [.Name v p2] X.env)).any (·.1) = false := by rfl) :
    DE X (.Call (.Name "isinstance" p) [e, .Name v p2] [] pos) Γ .bool r Γ1 := fun F G σ H W Q q =>
  wpe_of (pe_callB call_isi hg hm (by decide +kernel) (pa_cons pe_wp (pa_cons (pe_bltn (v := .ty T) hgT hmT hb rfl hnn hdb) pa_nil hs2) hs) (by decide) (by decide) hs hpl) (h F G σ H W _ fun w G1 H1 s1 W1 r1 =>
    ⟨w, .ty T, .type s, .type T, r, rfl, .ty T, tyx_of W1.gh t s w x hn r1, kit_ty hk, q _ G1 H1 s1 W1 rfl⟩)

/-! ### several targets -/
theorem ds_unpack {tg : Expr} {g : TG} {x : t.den} {B : t.den → List Slot → List Slot} {tgs : List Nat} (he : DE X e Γ t x Γ1) (hg : EvG X.K g t B tgs) (hp : PG X tg g) (hs : swapsWithSole [tg] e pos.line X.env = pure false := by rfl) (hw : swappedStores [tg] e X.env = pure none := by rfl)
    (h1 : (assignEach [tg] X.env).map (·.2) = [assign tg X.env] := by rfl) : DS X R (.Assign [tg] e pos) Γ (.nx (B x Γ1)) := fun F G σ H W D q =>
  wps_of (ps_asg pe_wp hp hs hw h1) (he F G σ H W _ fun v G1 H1 s1 W1 r1 => hg F G1 σ H1 Γ1 v x W1 r1 _ fun σ' _ W2 => q σ' G1 H1 s1 W2)
/-- x, y = e1, e2 -/
theorem ds_par (i j : Nat) {A B : Ty} {x1 : A.den} {x2 : B.den} {n1 n2 : Str} {px py pt : Pos} {kt k2 pt2} {e1 e2 : Expr} (hN : X.N.Nodup) (h1 : DE X e1 Γ A x1 Γ1) (h2 : DE X e2 Γ1 B x2 Γ2) (hi : X.N[i]? = some n1 := by rfl) (hj : X.N[j]? = some n2 := by rfl) (hij : i ≠ j := by decide)
    (hx : X.env.scope.names.lookup n1 = some .local := by rfl) (hy : X.env.scope.names.lookup n2 = some .local := by rfl) (hw : swappedStores [.Tuple [.Name n1 px, .Name n2 py] kt pt] (.Tuple [e1, e2] k2 pt2) X.env = pure (some [n1, n2]) := by rfl) (hc : X.calm = true := by rfl)
    (hs : swapsWithSole [.Tuple [.Name n1 px, .Name n2 py] kt pt] (.Tuple [e1, e2] k2 pt2) pos.line X.env = pure false := by rfl) (hs1 : starEach [e1, e2] X.env = (false, eval e1 X.env) :: starEach [e2] X.env := by rfl) (hs2 : starEach [e2] X.env = (false, eval e2 X.env) :: starEach [] X.env := by rfl) :
    DS X R (.Assign [.Tuple [.Name n1 px, .Name n2 py] kt pt] (.Tuple [e1, e2] k2 pt2) pos) Γ (.nx ((Γ2.set i (.fr A x1)).set j (.fr B x2))) := fun F G σ H W D q =>
  wps_of (L2.ps_par hc hN hi hj hij hx hy (pa_cons pe_wp (pa_cons pe_wp pa_nil hs2) hs1) hw hs) (h1 F G σ H W _ fun v G1 H1 s1 W1 r1 => h2 F G1 σ H1 W1 _ fun w G2 H2 s2 W2 r2 =>
    ⟨v, w, rfl, q _ G2 H2 (s1.trans s2) ((W2.setFr (rep_mono s2 A v x1 r1)).setFr r2)⟩)
end
end Dn

set_option Elab.async false
set_option linter.all false
set_option maxRecDepth 100000
set_option maxHeartbeats 1000000
/-! Dn, part 11: the script; conditions that ride along; callees; ends. -/
namespace Dn
open PySem PySem.Spec PyProof.Rows L2 TL

section
variable {X : Cx} {a b e : Expr} {pos : Pos} {Γ Γ1 Γ2 : List Slot} {xs : List Int}
theorem repL_ints {K : PySem.W.Frag} {G : Hp} : ∀ (xs : List Int), RepL K .int G (xs.map V.int) xs
  | [] => .nil
  | _ :: xs => .cons rfl (repL_ints xs)
theorem dl_scr (h : DE X e Γ .scr xs Γ1) : DL X e Γ .int xs Γ1 := fun F G σ H W Q q => h F G σ H W Q fun v G' H' s W' r => by
  obtain ⟨a, rfl, h1⟩ := r
  exact q a _ G' H' s W' (sql_mono W'.gh h1) (repL_ints xs)
theorem de_ixR {i : Int} (hi : IxOk xs.length i) (ha : DE X a Γ .scr xs Γ1) (hb : DE X b Γ1 .int i Γ2) (hs : PlainIx b := by exact fun _ _ => rfl) : DE X (.Subscript a b pos) Γ .int (get 0 xs i) Γ2 := fun F G σ H W Q q =>
  wpe_of (pe_ix ix_list pe_wp pe_wp hs) (ev_op (t := .scr) (τ := .int) (c := get 0 xs i) ha hb (fun G H v w Q sg r1 r2 q => by
    obtain ⟨p, rfl, h1⟩ := r1
    obtain ⟨v, e1, e2⟩ := at_ok (t := .int) (K := X.K) (G := G) 0 (repL_ints xs) hi
    exact ⟨p, _, i, v, rfl, r2, sql_mono sg h1, e1, q v e2⟩) F G σ H W Q q)
end

def Lp.done {S ρ : Type} (r : Lp S ρ) (k : S → Prop) : Prop := match r with
  | .go s => k s
  | .stop s => k s
  | .ret _ => True
section
variable {X : Cx} {ρ : Type} {R : RI ρ} {st : Stmt} {rest : List Stmt} {Γ Γ1 Γ2 : List Slot} {o o' o1 o2 o1' o2' : Out ρ}
theorem cont_letP {S : Type} {Γs : S → List Slot} {s0 : S} {of : S → Out ρ} (P : S → Prop) (hP : P s0) (h : ∀ s, P s → DSs X R rest (Γs s) (of s)) : Cont X R (.nx (Γs s0)) rest (of s0) := cont_nx (h s0 hP)
theorem cont_letQ {S : Type} {Γ : List Slot} {of : S → Out ρ} (Γs : S → List Slot) (s0 : S) (P : S → Prop) (hP : P s0) (e : Γ = Γs s0) (h : ∀ s, P s → DSs X R rest (Γs s) (of s)) (e2 : o' = of s0) : Cont X R (.nx Γ) rest o' := by
  subst e; subst e2; exact cont_nx (h s0 hP)
theorem cont_lpP {S : Type} {r : Lp S ρ} {k k' : S → Out ρ} (P : S → Prop) (hP : r.done P) (h : ∀ s, P s → Cont X R (k s) rest (k' s)) : Cont X R (.lp r k) rest (.lp r k') := fun F D G q => by
  cases r with
  | go s => exact h s hP F D G q
  | stop s => exact h s hP F D G q
  | ret x => exact q
end
theorem rets_rt {ρ : Type} {x : ρ} : (Out.rt x).Rets := trivial
theorem rets_br {ρ : Type} {b : Bool} {o1 o2 : Out ρ} (h1 : o1.Rets) (h2 : o2.Rets) : (Out.br b o1 o2).Rets := ⟨h1, h2⟩
theorem rets_lp {ρ S : Type} {r : Lp S ρ} {k : S → Out ρ} (h : ∀ s, (k s).Rets) : (Out.lp r k).Rets := h

theorem val_lp {ρ S : Type} {d : ρ} {r : Lp S ρ} {k : S → Out ρ} : (Out.lp r k).val d = r.fin fun s => (k s).val d := by cases r <;> rfl
/-! ### a callee, whole -/
structure Cl (P : Program) (w : World) (K : PySem.W.Frag) (mg : Str → Option Value) (base : Heap) (k : Nat) (n : Str) (ps : List Str) (sp : Sp) : Prop where
  ex : ∃ (f : Addr) (fd : FuncData), FnG P w K mg base k f fd ps sp ∧ mg n = some (.ref f) ∧ PySem.W.keepIn K (.ref f) = true ∧ Binds K fd ps []
section
variable {X : Cx} {ps : List Str} {sp : Sp} {k : Nat} {n : Str} {p pos : Pos} {e : Expr} {es : List Expr} {Γ Γ1 : List Slot} {as : List Arg} {t : Ty} {x : t.den} {o y y' : Own}
theorem cl_call (C : Cl X.prog X.w X.K X.mg X.base k n ps sp) (hr : RoomG k X.A)
    (hsp : ∀ vs H Q, Pm0 X.K as (.fr t x) vs H Q E0 → sp vs H Q E0) (ha : DA X (e :: es) Γ as Γ1) (hf : as.all Arg.isFr = true := by rfl)
    (hg : Gl X n := by rfl) (hdb : (n == ("__debug__" : Str)) = false := by decide) (he : starEach (e :: es) X.env = (false, eval e X.env) :: starEach es X.env := by rfl) (hpl : (backTo pos (starEach es X.env)).any (·.1) = false := by rfl) :
    DE X (.Call (.Name n p) (e :: es) [] pos) Γ t x Γ1 := by
  obtain ⟨f, fd, F, hm, hk, hb⟩ := C.ex
  exact de_call F hr hm hk hb hsp ha hf hg hdb he hpl
theorem clo_call (C : Cl X.prog X.w X.K X.mg X.base k n ps sp) (hr : RoomG k X.A)
    (hsp : ∀ vs H Q, Pm0 X.K as (.ow o) vs H Q E0 → sp vs H Q E0) (ha : DA X (e :: es) Γ as Γ1) (hf : as.all Arg.isFr = true := by rfl)
    (hg : Gl X n := by rfl) (hdb : (n == ("__debug__" : Str)) = false := by decide) (he : starEach (e :: es) X.env = (false, eval e X.env) :: starEach es X.env := by rfl) (hpl : (backTo pos (starEach es X.env)).any (·.1) = false := by rfl) :
    DO X (.Call (.Name n p) (e :: es) [] pos) Γ o Γ1 := by
  obtain ⟨f, fd, F, hm, hk, hb⟩ := C.ex
  exact do_call F hr hm hk hb hsp ha hf hg hdb he hpl
theorem cl_callB (i : Nat) {pin : Bool} (C : Cl X.prog X.w X.K X.mg X.base k n ps sp) (hr : RoomG k X.A)
    (hsp : ∀ vs H Q, Pm1 X.K y y' as (.fr t x) vs H Q E0 → sp vs H Q E0) (ha : DA X (e :: es) Γ (.bx i :: as) Γ1) (hi : Γ1[i]? = some (.ow pin y) := by rfl) (hf : as.all Arg.isFr = true := by rfl)
    (hg : Gl X n := by rfl) (hdb : (n == ("__debug__" : Str)) = false := by decide) (he : starEach (e :: es) X.env = (false, eval e X.env) :: starEach es X.env := by rfl) (hpl : (backTo pos (starEach es X.env)).any (·.1) = false := by rfl) :
    DE X (.Call (.Name n p) (e :: es) [] pos) Γ t x (Γ1.set i (.ow pin y')) := by
  obtain ⟨f, fd, F, hm, hk, hb⟩ := C.ex
  exact de_callB i F hr hm hk hb hsp ha hi hf hg hdb he hpl
theorem clo_callB (i : Nat) {pin : Bool} (C : Cl X.prog X.w X.K X.mg X.base k n ps sp) (hr : RoomG k X.A)
    (hsp : ∀ vs H Q, Pm1 X.K y y' as (.ow o) vs H Q E0 → sp vs H Q E0) (ha : DA X (e :: es) Γ (.bx i :: as) Γ1) (hi : Γ1[i]? = some (.ow pin y) := by rfl) (hf : as.all Arg.isFr = true := by rfl)
    (hg : Gl X n := by rfl) (hdb : (n == ("__debug__" : Str)) = false := by decide) (he : starEach (e :: es) X.env = (false, eval e X.env) :: starEach es X.env := by rfl) (hpl : (backTo pos (starEach es X.env)).any (·.1) = false := by rfl) :
    DO X (.Call (.Name n p) (e :: es) [] pos) Γ o (Γ1.set i (.ow pin y')) := by
  obtain ⟨f, fd, F, hm, hk, hb⟩ := C.ex
  exact do_callB i F hr hm hk hb hsp ha hi hf hg hdb he hpl
theorem cl_callT (C : Cl X.prog X.w X.K X.mg X.base k n ps sp) (hr : RoomG k X.A)
    (hsp : ∀ vs H Q, Pm1 X.K y y' as (.fr t x) vs H Q E0 → sp vs H Q E0) (ha : DA X (e :: es) Γ (.tmp y :: as) Γ1) (hf : as.all Arg.isFr = true := by rfl)
    (hg : Gl X n := by rfl) (hdb : (n == ("__debug__" : Str)) = false := by decide) (he : starEach (e :: es) X.env = (false, eval e X.env) :: starEach es X.env := by rfl) (hpl : (backTo pos (starEach es X.env)).any (·.1) = false := by rfl) :
    DE X (.Call (.Name n p) (e :: es) [] pos) Γ t x Γ1 := by
  obtain ⟨f, fd, F, hm, hk, hb⟩ := C.ex
  exact de_callT F hr hm hk hb hsp ha hf hg hdb he hpl
end
theorem pm0_len {K : PySem.W.Frag} {as : List Arg} {r : Ret} {vs : List V} {H : Hp} {Q : VK} {E : XK} (h : Pm0 K as r vs H Q E) : vs.length = as.length := by
  obtain ⟨G, _, p, _⟩ := h
  exact pair_len p
theorem pm1_len {K : PySem.W.Frag} {y y' : Own} {as : List Arg} {r : Ret} {vs : List V} {H : Hp} {Q : VK} {E : XK} (h : Pm1 K y y' as r vs H Q E) : vs.length = as.length + 1 := by
  obtain ⟨G, b, ho, vs', rfl, _, _, _, _, p, _⟩ := h
  have := pair_len p
  simp only [List.length_cons]
  omega
/-! ### the law's entry -/
theorem entry {K : PySem.W.Frag} {H : Hp} {a : Addr} {ns : List Int} (hS : SqL K H a (ns.map V.int)) : Pm0 K [.fr .scr ns] (.fr .bool true) [.ref a] H (fun v _ => v = .bl true) fun _ _ _ => False := by
  refine ⟨fun c => if c = a then H a else none, fun c o e => ?_, .cons ⟨a, rfl, ?_⟩ .nil, fun v G' H' _ _ _ _ r => r⟩
  · by_cases h : c = a
    · simp only [h, if_true] at e ⊢
      exact e
    · simp only [if_neg h] at e
      cases e
  · rcases hS with (h | ⟨o, h⟩) | h
    · exact .inl (.inl (by simpa using h))
    · exact .inl (.inr ⟨o, by simpa using h⟩)
    · exact .inr h
instance {j : Int} : Decidable (DivOk j) := inferInstanceAs (Decidable (_ ∧ _))
instance {i j : Int} : Decidable (MulOk i j) := inferInstanceAs (Decidable (_ < _))
instance {i : Nat} : Decidable (Sz i) := inferInstanceAs (Decidable (_ ≤ _))
instance {i : Int} : Decidable (RngOk i) := inferInstanceAs (Decidable (_ ∧ _))
instance {n : Nat} {i : Int} : Decidable (IxOk n i) := inferInstanceAs (Decidable (_ ∧ _))
section
variable {X : Cx} {a b e : Expr} {pos : Pos} {Γ Γ1 Γ2 Γ3 : List Slot} {S : Type}
/-! effects behind a condition -/
theorem dw_andG (Γs : S → List Slot) {c : Bool} {r : Bool × S} {s1 : S} {rest : List Expr} (h : DT X a Γ c (Γs s1)) (h2 : c = true → DW X (.BoolOp .And (b :: rest) pos) (Γs s1) r.1 (Γs r.2)) : DW X (.BoolOp .And (a :: b :: rest) pos) Γ (bif c then r else (false, s1)).1 (Γs (bif c then r else (false, s1)).2) := by
  cases c with
  | true => exact dw_and (c := true) (d := r.1) h h2 (fun z => by cases z)
  | false => exact dw_and (c := false) (d := false) (Γ2 := Γs s1) h (fun z => by cases z) (fun _ => rfl)
theorem dw_orG (Γs : S → List Slot) {c : Bool} {r : Bool × S} {s1 : S} {rest : List Expr} (h : DT X a Γ c (Γs s1)) (h2 : c = false → DW X (.BoolOp .Or (b :: rest) pos) (Γs s1) r.1 (Γs r.2)) : DW X (.BoolOp .Or (a :: b :: rest) pos) Γ (bif c then (true, s1) else r).1 (Γs (bif c then (true, s1) else r).2) := by
  cases c with
  | true => exact dw_or (c := true) (d := true) (Γ2 := Γs s1) h (fun z => by cases z) (fun _ => rfl)
  | false => exact dw_or (c := false) (d := r.1) h h2 (fun z => by cases z)
theorem de_ifG (Γs : S → List Slot) {t : Ty} {cx : Expr} {c : Bool} {r1 r2 : t.den × S} (hc : DT X cx Γ c Γ1) (h1 : c = true → DE X a Γ1 t r1.1 (Γs r1.2)) (h2 : c = false → DE X b Γ1 t r2.1 (Γs r2.2)) : DE X (.IfExp cx a b pos) Γ t (bif c then r1 else r2).1 (Γs (bif c then r1 else r2).2) := by
  cases c with
  | true => exact de_if (f := fun _ => r1.1) hc h1 (fun z => by cases z)
  | false => exact de_if (f := fun _ => r2.1) hc (fun z => by cases z) h2
variable {ρ : Type} {R : RI ρ}
theorem ds_frz (i : Nat) {st : Stmt} {t : Ty} {xs : List t.den} (h : DS X R st Γ (.nx Γ1)) (hi : Γ1[i]? = some (.ow false (.lst t xs)) := by rfl) : DS X R st Γ (.nx (Γ1.set i (.fr (.lst t) xs))) :=
  ds_join (S := Unit) (fun _ => Γ1.set i (.fr (.lst t) xs)) (s := ()) h (.nx (ent_frz i hi))
theorem ds_joinE {o o' : Out ρ} {st : Stmt} (Γs : S → List Slot) (s : S) (e : o' = .nx (Γs s)) (h : DS X R st Γ o) (k : Nx X.K Γs o s) : DS X R st Γ o' := by subst e; exact ds_join Γs h k
theorem dss_join (Γs : S → List Slot) {st : List Stmt} {o : Out ρ} {s : S} (h : DSs X R st Γ o) (k : Nx X.K Γs o s) : DSs X R st Γ (.nx (Γs s)) := fun F G σ H W D q => h F G σ H W D (nx_ok k q)
end
section
variable {X : Cx} {S α : Type} {tg iter elt : Expr} {ifs : List Expr} {scope : Scope} {g : TG} {pos : Pos} {Γ Γ1 : List Slot} {ys : List α} {B : α → List Slot → List Slot} {tgs : List Nat} {t : Ty}
/-! comprehensions, read first and compared after -/
theorem lcq_map (own : List (Str × Nat)) {P : α → Prop} {h : α → t.den} (hi : DI X tg iter g Γ ys B tgs Γ1) (hg : ∀ (sh : Shared) (H : Hp) (C : Addr) (cl : List (Str × Addr)) (fp : List Addr), PG (X.blk sh H scope (compEnvC scope cl C X.env) fp) tg g) (hz : Sz ys.length) (hP : ∀ y ∈ ys, P y)
    (hb : ∀ y, P y → ∃ x Γe, (∀ (sh : Shared) (H : Hp) (C : Addr) (cl : List (Str × Addr)) (fp : List Addr), DE (X.blk sh H scope (compEnvC scope cl C X.env) fp) elt (B y Γ1) t x Γe) ∧ Wk Γe Γ1 ∧ x = h y)
    (ok : BlkOk X.N X.env.scope scope own) (hw : wipeS Γ1 (own.map (·.2)) = Γ1 := by rfl) (htg : ∀ i ∈ tgs, i ∈ own.map (·.2) := by decide) : LcOk X elt tg iter [] scope Γ (.lst t (ys.map h)) Γ1 :=
  lc_map own hi hg hz hP (fun y p => by obtain ⟨x, Γe, a, b, c⟩ := hb y p; subst c; exact ⟨Γe, b, a⟩) ok hw htg
theorem lcq_filt (own : List (Str × Nat)) {P : α → Prop} {c : α → Bool} {h : α → t.den} (hi : DI X tg iter g Γ ys B tgs Γ1) (hg : ∀ (sh : Shared) (H : Hp) (C : Addr) (cl : List (Str × Addr)) (fp : List Addr), PG (X.blk sh H scope (compEnvC scope cl C X.env) fp) tg g) (hz : Sz ys.length) (hP : ∀ y ∈ ys, P y)
    (hb : ∀ y, P y → ∃ b x Γt Γe, (∀ (sh : Shared) (H : Hp) (C : Addr) (cl : List (Str × Addr)) (fp : List Addr), DTs (X.blk sh H scope (compEnvC scope cl C X.env) fp) ifs (B y Γ1) b Γt) ∧ (b = true → (∀ (sh : Shared) (H : Hp) (C : Addr) (cl : List (Str × Addr)) (fp : List Addr), DE (X.blk sh H scope (compEnvC scope cl C X.env) fp) elt Γt t x Γe)) ∧ Wk Γt Γ1 ∧ Wk Γe Γ1 ∧ b = c y ∧ x = h y)
    (ok : BlkOk X.N X.env.scope scope own) (hw : wipeS Γ1 (own.map (·.2)) = Γ1 := by rfl) (htg : ∀ i ∈ tgs, i ∈ own.map (·.2) := by decide) : LcOk X elt tg iter ifs scope Γ (.lst t ((ys.filter c).map h)) Γ1 :=
  lc_filt own hi hg hz hP (fun y p => by
    obtain ⟨b, x, Γt, Γe, h1, h2, w1, w2, e1, e2⟩ := hb y p
    subst e1; subst e2
    exact ⟨Γt, Γe, w1, w2, fun sh H C cl fp => ⟨h1 sh H C cl fp, fun q => h2 q sh H C cl fp⟩⟩) ok hw htg
theorem lcq_mapS (own : List (Str × Nat)) (Γs : S → List Slot) (s0 : S) {P : S → α → Prop} {f : S → α → t.den × S} (hi : DI X tg iter g Γ ys B tgs Γ1) (h0 : Γ1 = Γs s0) (hg : ∀ (sh : Shared) (H : Hp) (C : Addr) (cl : List (Str × Addr)) (fp : List Addr), PG (X.blk sh H scope (compEnvC scope cl C X.env) fp) tg g) (hz : Sz ys.length) (hP : AllS P f s0 ys)
    (hb : ∀ s y, P s y → ∃ x s' Γe, (∀ (sh : Shared) (H : Hp) (C : Addr) (cl : List (Str × Addr)) (fp : List Addr), DE (X.blk sh H scope (compEnvC scope cl C X.env) fp) elt (B y (Γs s)) t x Γe) ∧ Wk Γe (Γs s') ∧ (x, s') = f s y)
    (ok : BlkOk X.N X.env.scope scope own) (hw : ∀ s, wipeS (Γs s) (own.map (·.2)) = Γs s := by intro _; rfl) (htg : ∀ i ∈ tgs, i ∈ own.map (·.2) := by decide) : LcOk X elt tg iter [] scope Γ (.lst t (mapS f s0 ys).1) (Γs (mapS f s0 ys).2) := by
  subst h0
  refine lc_mapS own Γs hi hg hz hP (fun s y p => ?_) ok hw htg
  obtain ⟨x, s', Γe, a, b, c⟩ := hb s y p
  rw [← c]
  exact ⟨Γe, b, a⟩
end
theorem de_eq {X : Cx} {e : Expr} {Γ Γ1 Γ' : List Slot} {t : Ty} {x x' : t.den} (h : DE X e Γ t x Γ1) (e1 : x = x') (e2 : Γ1 = Γ') : DE X e Γ t x' Γ' := by subst e1; subst e2; exact h
end Dn

set_option Elab.async false
set_option linter.all false
set_option maxRecDepth 100000
set_option maxHeartbeats 1000000
/-! Dn, part 12: chains of comparisons; == beside owned lists; extend by a tuple. -/
namespace Dn
open PySem PySem.Spec PyProof.Rows L2 TL

section
variable {X : Cx} {a b c e : Expr} {pos : Pos} {Γ Γ1 Γ2 : List Slot}
def IC (X : Cx) (op : CmpOp) (f : Int → Int → Bool) : Prop := ∃ r : R2, OpR X (compareOp op) r ∧ ∀ (i j : Int) (H : Hp) (Q : VK), Q (.bl (f i j)) H → r (.int i) (.int j) H Q
theorem ic_lt : IC X .Lt fun i j => decide (i < j) := ⟨_, op_lt, fun i j H Q q => ⟨i, j, rfl, rfl, q⟩⟩
theorem ic_le : IC X .LtE fun i j => decide (i ≤ j) := ⟨_, op_le, fun i j H Q q => ⟨i, j, rfl, rfl, q⟩⟩
theorem ic_gt : IC X .Gt fun i j => decide (j < i) := ⟨_, op_gt, fun i j H Q q => ⟨i, j, rfl, rfl, q⟩⟩
theorem ic_ge : IC X .GtE fun i j => decide (j ≤ i) := ⟨_, op_ge, fun i j H Q q => ⟨i, j, rfl, rfl, q⟩⟩
theorem ev_chain {r r' : R2} {f f' : Int → Int → Bool} {i j k : Int} (h1 : ∀ (i j : Int) (H : Hp) (Q : VK), Q (.bl (f i j)) H → r (.int i) (.int j) H Q) (h2 : ∀ (i j : Int) (H : Hp) (Q : VK), Q (.bl (f' i j)) H → r' (.int i) (.int j) H Q)
    (ha : DE X a Γ .int i Γ1) (hb : DE X b Γ1 .int j Γ2) (hc : f i j = true → DE X c Γ2 .int k Γ2) : Ev X.K (tChain r r' (WPE X a) (WPE X b) (WPE X c)) Γ .bool (f i j && f' j k) Γ2 := fun F G σ H W Q q =>
  ha F G σ H W _ fun v G1 H1 s1 W1 e1 => hb F G1 σ H1 W1 _ fun u G2 H2 s2 W2 e2 => by
    cases e1; cases e2
    refine h1 _ _ _ _ ⟨f i j, rfl, ?_⟩
    by_cases hf : f i j = true
    · rw [if_pos hf]
      refine hc hf F G2 σ H2 W2 _ fun w G3 H3 s3 W3 e3 => ?_
      cases e3
      refine h2 _ _ _ _ (q _ G3 H3 ((s1.trans s2).trans s3) W3 ?_)
      rw [hf]; rfl
    · rw [if_neg hf]
      refine q _ G2 H2 (s1.trans s2) W2 ?_
      have hf : f i j = false := by simpa using hf
      rw [hf]; rfl
theorem dt_chain {op op' : CmpOp} {f f' : Int → Int → Bool} {i j k : Int} (o1 : IC X op f) (o2 : IC X op' f') (ha : DE X a Γ .int i Γ1) (hb : DE X b Γ1 .int j Γ2) (hc : f i j = true → DE X c Γ2 .int k Γ2) (hm : lastMarks [op, op'] [b, c] = false := by with_unfolding_all rfl) :
    DT X (.Compare a [op, op'] [b, c] pos) Γ (f i j && f' j k) Γ2 := fun F G σ H W Q q => by
  obtain ⟨r, p, h1⟩ := o1
  obtain ⟨r', p', h2⟩ := o2
  exact wpt_of (pt_chain p p' pe_wp pe_wp pe_wp hm) (ev_chain h1 h2 ha hb hc F G σ H W _ fun v G' H' s W' e => ⟨_, e, q G' H' s W'⟩)
theorem de_chain {op op' : CmpOp} {f f' : Int → Int → Bool} {i j k : Int} (o1 : IC X op f) (o2 : IC X op' f') (ha : DE X a Γ .int i Γ1) (hb : DE X b Γ1 .int j Γ2) (hc : f i j = true → DE X c Γ2 .int k Γ2) (hm : lastMarks [op, op'] [b, c] = false := by with_unfolding_all rfl) :
    DE X (.Compare a [op, op'] [b, c] pos) Γ .bool (f i j && f' j k) Γ2 := fun F G σ H W Q q => by
  obtain ⟨r, p, h1⟩ := o1
  obtain ⟨r', p', h2⟩ := o2
  exact wpe_of (pe_chain p p' pe_wp pe_wp pe_wp hm) (ev_chain h1 h2 ha hb hc F G σ H W Q q)
variable {t : Ty} {xs ys : List t.den}
theorem dpL_list {K : PySem.W.Frag} {G H : Hp} (sg : Same G H) {q : Addr} {vs : List V} (h : SqL K H q vs) (r : RepL K t G vs xs) : Dp K H (.ref q) (toPy (.lst t) xs) := .lst h (dpAll_of (rep_dp sg t) r)
/-! == of an owned name with a list -/
section
variable {n : Str} {pin : Bool}
theorem dc_eqV (i : Nat) {k : Nat} {p : Pos} (hr : RoomG k X.A) (hl : Lay (.lst t) xs) (hl2 : Lay (.lst t) ys) [DecidableEq (Ty.lst t).den] (hb : DL X b Γ t ys Γ2) (h : Γ2[i]? = some (.ow pin (.lst t xs)) := by rfl) (h0 : (Γ[i]?.map Slot.isLst) = some true := by rfl) (hN : X.N[i]? = some n := by rfl) (hv : Vis X.env.scope n := by first | exact Or.inl rfl | exact Or.inr (Or.inl rfl) | exact Or.inr (Or.inr rfl))
    (hd : (n == ("__debug__" : Str)) = false := by decide) (hcd : (n == ("__classdict__" : Str)) = false := by decide) (he : (Ty.lst t).canEq = true := by rfl) (hdp : (Ty.lst t).dep ≤ 60 := by decide) : DC X .Eq (.Name n p) b Γ (decide ((xs : (Ty.lst t).den) = ys)) Γ2 := fun F G σ H W Q q => by
  obtain ⟨a, ha⟩ := W.owName h0
  refine wpc_of (pc_op (op_eqD hr.units) (pe_var hN hv hd hcd) pe_wp) ⟨.ref a, ha, hb F G σ H W _ fun a2 vs G1 H1 s1 W1 h1 h2 => ?_⟩
  obtain ⟨p', ws, e1, e2, e3⟩ := W1.owned h
  rw [ha] at e1; cases e1
  exact ⟨toPy (.lst t) xs, toPy (.lst t) ys, dpL_list W1.gh (SqL.of e2) e3, dpL_list W1.gh h1 h2, shaped_of hl hdp, shaped_of hl2 hdp, q _ G1 H1 s1 W1 (by rw [eqv_dec he]; rfl)⟩
theorem dc_neV (i : Nat) {k : Nat} {p : Pos} (hr : RoomG k X.A) (hl : Lay (.lst t) xs) (hl2 : Lay (.lst t) ys) [DecidableEq (Ty.lst t).den] (hb : DL X b Γ t ys Γ2) (h : Γ2[i]? = some (.ow pin (.lst t xs)) := by rfl) (h0 : (Γ[i]?.map Slot.isLst) = some true := by rfl) (hN : X.N[i]? = some n := by rfl) (hv : Vis X.env.scope n := by first | exact Or.inl rfl | exact Or.inr (Or.inl rfl) | exact Or.inr (Or.inr rfl))
    (hd : (n == ("__debug__" : Str)) = false := by decide) (hcd : (n == ("__classdict__" : Str)) = false := by decide) (he : (Ty.lst t).canEq = true := by rfl) (hdp : (Ty.lst t).dep ≤ 60 := by decide) : DC X .NotEq (.Name n p) b Γ (!decide ((xs : (Ty.lst t).den) = ys)) Γ2 := fun F G σ H W Q q => by
  obtain ⟨a, ha⟩ := W.owName h0
  refine wpc_of (pc_op (op_neD hr.units) (pe_var hN hv hd hcd) pe_wp) ⟨.ref a, ha, hb F G σ H W _ fun a2 vs G1 H1 s1 W1 h1 h2 => ?_⟩
  obtain ⟨p', ws, e1, e2, e3⟩ := W1.owned h
  rw [ha] at e1; cases e1
  exact ⟨toPy (.lst t) xs, toPy (.lst t) ys, dpL_list W1.gh (SqL.of e2) e3, dpL_list W1.gh h1 h2, shaped_of hl hdp, shaped_of hl2 hdp, q _ G1 H1 s1 W1 (by rw [eqv_dec he]; rfl)⟩
end
end

theorem list_extend_list_tuple_g (l : Addr) (items : Array Value) (n : Nat) (b : Addr) (items2 : Array Value) (n2 : Nat) (dx : Option Addr) (sx : Array (Option Value)) (hs0 : ¬(!items.isEmpty && Builtin.List.listTooLong (items.size + items2.size)) = true) (hs1 : items.size ≤ sizeLine) (hs2 : items.size + items2.size ≤ sizeLine + 1) :
    Meets (Builtin.«list.extend» ⟨[.ref l, .ref b], []⟩) (fun _ R s => s.heap.get? l = some { cls := .type "list", dict := none, data := .seq items n, slots := #[] } ∧ s.heap.get? b = some { cls := .type "tuple", dict := dx, data := .seq items2 n2, slots := sx } ∧ R (.ok (.ret Value.none)) { s with heap := s.heap.update l (Obj.mapSeq fun x => x ++ items2), toks := s.toks }) :=
  .of_wp fun prog w A R s h => by
    obtain ⟨hp, g, d, tk, os⟩ := s
    obtain ⟨hl, hb, k⟩ := h
    have f5 := PySem.AutoSeq1.sub_list_tuple
    have f4 := PySem.AutoSeq1.sub_tuple_list
    have f3 := PySem.AutoSeq1.sub_list_list
    have f2 := PySem.AutoSeq1.sub_tuple_tuple
    have f1 := PySem.AutoSeq1.idx_int
    have hz2 : (items ++ items2).size ≤ sizeLine + 1 := by
      rw [Array.size_append]
      exact hs2
    wp_walk using (wpAny_updateSeq hl rfl (hz := hs1) (_hz' := hz2)), PySem.AutoSeq1.wpAny_loadPart' hb, PySem.AutoSeq1.wpAny_loadPart' hl
    exact ⟨_, rfl, k⟩
/-- append many: xs.extend(a tuple) -/
def rExtU (K : PySem.W.Frag) : V → List V → Hp → VK → Prop := fun x vs H Q => ∃ l b xs zs, x = .ref l ∧ vs = [.ref b] ∧ H l = some (.lst xs) ∧ SqT K H b zs ∧ xs.length + zs.length ≤ sizeLine ∧ Q .non (upd H l (.lst (xs ++ zs)))
theorem mt_extU {X : Cx} : MtM X "list.extend" (rExtU X.K) := by
  intro pins s σ H x vs v us Q I rx rv h
  obtain ⟨l, b, xs, zs, rfl, rfl, hH, hB, hz, q⟩ := h
  cases rx
  obtain ⟨u, rfl, ru⟩ := rv.one
  cases ru
  obtain ⟨z, its, n, r, hl, e⟩ := I.lstM hH
  obtain ⟨its2, r2, ht, hz2⟩ := I.tuple hB
  obtain ⟨o, e2, hc, n2, hd⟩ := ht
  obtain ⟨oc, dx, od, sx⟩ := o
  cases hc
  cases hd
  have hl2 := r2.length
  have h1 : its.toArray.size + its2.toArray.size ≤ sizeLine := by rw [List.size_toArray, List.size_toArray]; omega
  have h2 : ¬ (!its.toArray.isEmpty && Builtin.List.listTooLong (its.toArray.size + its2.toArray.size)) = true := by
    rw [notLongL h1, Bool.and_false]
    simp
  refine call_meets F.slot_list_extend ⟨_, e, rfl⟩ F.entry_list_extend (F.args_list_extend_2 _ _)
    (list_extend_list_tuple_g l its.toArray n b its2.toArray n2 dx sx h2 (by rw [List.size_toArray]; omega) (by omega)) ⟨e, e2, ?_⟩
  refine ⟨.non, _, I.lset (its' := its ++ its2) hH e (by simp) (r.append r2) ?_, rfl, q⟩
  rw [List.length_append]
  omega
section
variable {X : Cx} {ρ : Type} {R : RI ρ} {a b e : Expr} {es : List Expr} {pos p cpos apos npos : Pos} {Γ Γ1 Γ2 Γ3 : List Slot} {t u : Ty} {xs ys : List t.den} {n : Str}
theorem ds_extU (i : Nat) {pin : Bool} (hz : Sz (xs.length + ys.length)) (he : DU X e Γ t ys Γ1) (h : Γ1[i]? = some (.ow pin (.lst t xs)) := by rfl) (h0 : (Γ[i]?.map Slot.isLst) = some true := by rfl) (hN : X.N[i]? = some n := by rfl) (hv : Vis X.env.scope n := by first | exact Or.inl rfl | exact Or.inr (Or.inl rfl) | exact Or.inr (Or.inr rfl))
    (hd : (n == ("__debug__" : Str)) = false := by decide) (hcd : (n == ("__classdict__" : Str)) = false := by decide) (hbase : attributeBase (.Name n npos) "extend" X.env (eval (.Name n npos) X.env) = eval (.Name n npos) X.env := by rfl)
    (hfew : ((backTo cpos (starEach [e] X.env)).all (fun x => !x.1) && (backToKw cpos (keywordEach [] X.env)).all (fun x => x.1.isSome) && decide (([e] : List Expr).length + ([] : List Keyword).length + (if ([] : List Keyword).isEmpty then 0 else 1) < 30)) = true := by rfl)
    (hline : (apos.endLine == cpos.line) = true := by rfl) (hs : starEach [e] X.env = (false, eval e X.env) :: starEach [] X.env := by rfl) (hpl : (backTo cpos (starEach [] X.env)).any (·.1) = false := by rfl) (hsw : swapsWith (.Call (.Attribute (.Name n npos) "extend" apos) [e] [] cpos) none pos.line X.env = pure false := by rfl) :
    DS X R (.Expr (.Call (.Attribute (.Name n npos) "extend" apos) [e] [] cpos) pos) Γ (.nx (Γ1.set i (.ow pin (.lst t (xs ++ ys))))) := fun F G σ H W D q => by
  obtain ⟨p, hp⟩ := W.owName h0
  obtain ⟨vs0, hvs0⟩ := W.tyL h0 hp
  refine wps_of (ps_expr (pe_bm PySem.F.plainAttrs_list PySem.F.slot_list_extend PySem.F.type_list_extend mt_extU (pe_var hN hv hd hcd) pa_wp hbase hfew hline hs hpl) hsw) ⟨.ref p, hp, .inl ⟨rfl, vs0, .inl (.inl hvs0)⟩, wpa_one hs (he F G σ H W _ fun p2 ws G1 H1 s1 W1 hU r => ?_)⟩
  obtain ⟨p', vs, h1, h2, h3⟩ := W1.owned h
  rw [hp] at h1; cases h1
  exact ⟨p, p2, vs, ws, rfl, rfl, h2, hU, by rw [pair_len h3, pair_len r]; exact hz.le, q σ G1 _ s1 (W1.mutate h hp (pair_app h3 r))⟩
end
theorem dss_ent {X : Cx} {ρ : Type} {R : RI ρ} {ss : List Stmt} {Γ Γ' : List Slot} {o : Out ρ} (k : Ent X.K Γ Γ') (h : DSs X R ss Γ' o) : DSs X R ss Γ o := fun F G σ H W D q => by
  obtain ⟨G', s, W'⟩ := k F G σ H W
  exact h F G' σ H W' D (outOk_mono s q)
/-- x in xs, by ==; the way to tell is always that of DecidableEq -/
def memD {α : Type} [DecidableEq α] (x : α) (xs : List α) : Bool := decide (x ∈ xs)
theorem memD_iff {α : Type} [DecidableEq α] {x : α} {xs : List α} : memD x xs = true ↔ x ∈ xs := decide_eq_true_iff
section
variable {X : Cx} {a b e : Expr} {Γ Γ1 Γ2 : List Slot} {t : Ty} {x : t.den} {xs : List t.den}
theorem dc_inD {k : Nat} (hr : RoomG k X.A) (hl : Lay t x) (hl2 : ∀ y ∈ xs, Lay t y) [DecidableEq t.den] (ha : DE X a Γ t x Γ1) (hb : DQ X b Γ1 t xs Γ2) (he : t.canEq = true := by rfl) (hd : t.dep ≤ 60 := by decide) : DC X .In a b Γ (memD x xs) Γ2 := dc_in hr hl hl2 ha hb he hd
theorem dc_ninD {k : Nat} (hr : RoomG k X.A) (hl : Lay t x) (hl2 : ∀ y ∈ xs, Lay t y) [DecidableEq t.den] (ha : DE X a Γ t x Γ1) (hb : DQ X b Γ1 t xs Γ2) (he : t.canEq = true := by rfl) (hd : t.dep ≤ 60 := by decide) : DC X .NotIn a b Γ (!memD x xs) Γ2 := dc_nin hr hl hl2 ha hb he hd
end
end Dn

set_option Elab.async false
set_option linter.all false
set_option maxRecDepth 100000
set_option maxHeartbeats 1000000
/-! Dn, part 13: let-points with their values one by one. -/
namespace Dn
open PySem PySem.Spec PyProof.Rows L2 TL
theorem cont_let1 {X : Cx} {ρ : Type} {R : RI ρ} {rest : List Stmt} {o' : Out ρ} {A1 : Type} {Γ : List Slot} {of : A1 → Out ρ} (Γs : A1 → List Slot) (a1 : A1) (P : A1 → Prop) (hP : P a1) (e : Γ = Γs a1) (h : ∀ b1, P b1 → DSs X R rest (Γs b1) (of b1)) (e2 : o' = of a1) : Cont X R (.nx Γ) rest o' := by
  subst e; subst e2; exact cont_nx (h a1 hP)
theorem cont_let2 {X : Cx} {ρ : Type} {R : RI ρ} {rest : List Stmt} {o' : Out ρ} {A1 A2 : Type} {Γ : List Slot} {of : A1 → A2 → Out ρ} (Γs : A1 → A2 → List Slot) (a1 : A1) (a2 : A2) (P : A1 → A2 → Prop) (hP : P a1 a2) (e : Γ = Γs a1 a2) (h : ∀ b1 b2, P b1 b2 → DSs X R rest (Γs b1 b2) (of b1 b2)) (e2 : o' = of a1 a2) : Cont X R (.nx Γ) rest o' := by
  subst e; subst e2; exact cont_nx (h a1 a2 hP)
theorem cont_let3 {X : Cx} {ρ : Type} {R : RI ρ} {rest : List Stmt} {o' : Out ρ} {A1 A2 A3 : Type} {Γ : List Slot} {of : A1 → A2 → A3 → Out ρ} (Γs : A1 → A2 → A3 → List Slot) (a1 : A1) (a2 : A2) (a3 : A3) (P : A1 → A2 → A3 → Prop) (hP : P a1 a2 a3) (e : Γ = Γs a1 a2 a3) (h : ∀ b1 b2 b3, P b1 b2 b3 → DSs X R rest (Γs b1 b2 b3) (of b1 b2 b3)) (e2 : o' = of a1 a2 a3) : Cont X R (.nx Γ) rest o' := by
  subst e; subst e2; exact cont_nx (h a1 a2 a3 hP)
theorem cont_let4 {X : Cx} {ρ : Type} {R : RI ρ} {rest : List Stmt} {o' : Out ρ} {A1 A2 A3 A4 : Type} {Γ : List Slot} {of : A1 → A2 → A3 → A4 → Out ρ} (Γs : A1 → A2 → A3 → A4 → List Slot) (a1 : A1) (a2 : A2) (a3 : A3) (a4 : A4) (P : A1 → A2 → A3 → A4 → Prop) (hP : P a1 a2 a3 a4) (e : Γ = Γs a1 a2 a3 a4) (h : ∀ b1 b2 b3 b4, P b1 b2 b3 b4 → DSs X R rest (Γs b1 b2 b3 b4) (of b1 b2 b3 b4)) (e2 : o' = of a1 a2 a3 a4) : Cont X R (.nx Γ) rest o' := by
  subst e; subst e2; exact cont_nx (h a1 a2 a3 a4 hP)
theorem cont_let5 {X : Cx} {ρ : Type} {R : RI ρ} {rest : List Stmt} {o' : Out ρ} {A1 A2 A3 A4 A5 : Type} {Γ : List Slot} {of : A1 → A2 → A3 → A4 → A5 → Out ρ} (Γs : A1 → A2 → A3 → A4 → A5 → List Slot) (a1 : A1) (a2 : A2) (a3 : A3) (a4 : A4) (a5 : A5) (P : A1 → A2 → A3 → A4 → A5 → Prop) (hP : P a1 a2 a3 a4 a5) (e : Γ = Γs a1 a2 a3 a4 a5) (h : ∀ b1 b2 b3 b4 b5, P b1 b2 b3 b4 b5 → DSs X R rest (Γs b1 b2 b3 b4 b5) (of b1 b2 b3 b4 b5)) (e2 : o' = of a1 a2 a3 a4 a5) : Cont X R (.nx Γ) rest o' := by
  subst e; subst e2; exact cont_nx (h a1 a2 a3 a4 a5 hP)
theorem cont_let6 {X : Cx} {ρ : Type} {R : RI ρ} {rest : List Stmt} {o' : Out ρ} {A1 A2 A3 A4 A5 A6 : Type} {Γ : List Slot} {of : A1 → A2 → A3 → A4 → A5 → A6 → Out ρ} (Γs : A1 → A2 → A3 → A4 → A5 → A6 → List Slot) (a1 : A1) (a2 : A2) (a3 : A3) (a4 : A4) (a5 : A5) (a6 : A6) (P : A1 → A2 → A3 → A4 → A5 → A6 → Prop) (hP : P a1 a2 a3 a4 a5 a6) (e : Γ = Γs a1 a2 a3 a4 a5 a6) (h : ∀ b1 b2 b3 b4 b5 b6, P b1 b2 b3 b4 b5 b6 → DSs X R rest (Γs b1 b2 b3 b4 b5 b6) (of b1 b2 b3 b4 b5 b6)) (e2 : o' = of a1 a2 a3 a4 a5 a6) : Cont X R (.nx Γ) rest o' := by
  subst e; subst e2; exact cont_nx (h a1 a2 a3 a4 a5 a6 hP)
theorem cont_let7 {X : Cx} {ρ : Type} {R : RI ρ} {rest : List Stmt} {o' : Out ρ} {A1 A2 A3 A4 A5 A6 A7 : Type} {Γ : List Slot} {of : A1 → A2 → A3 → A4 → A5 → A6 → A7 → Out ρ} (Γs : A1 → A2 → A3 → A4 → A5 → A6 → A7 → List Slot) (a1 : A1) (a2 : A2) (a3 : A3) (a4 : A4) (a5 : A5) (a6 : A6) (a7 : A7) (P : A1 → A2 → A3 → A4 → A5 → A6 → A7 → Prop) (hP : P a1 a2 a3 a4 a5 a6 a7) (e : Γ = Γs a1 a2 a3 a4 a5 a6 a7) (h : ∀ b1 b2 b3 b4 b5 b6 b7, P b1 b2 b3 b4 b5 b6 b7 → DSs X R rest (Γs b1 b2 b3 b4 b5 b6 b7) (of b1 b2 b3 b4 b5 b6 b7)) (e2 : o' = of a1 a2 a3 a4 a5 a6 a7) : Cont X R (.nx Γ) rest o' := by
  subst e; subst e2; exact cont_nx (h a1 a2 a3 a4 a5 a6 a7 hP)
theorem cont_let8 {X : Cx} {ρ : Type} {R : RI ρ} {rest : List Stmt} {o' : Out ρ} {A1 A2 A3 A4 A5 A6 A7 A8 : Type} {Γ : List Slot} {of : A1 → A2 → A3 → A4 → A5 → A6 → A7 → A8 → Out ρ} (Γs : A1 → A2 → A3 → A4 → A5 → A6 → A7 → A8 → List Slot) (a1 : A1) (a2 : A2) (a3 : A3) (a4 : A4) (a5 : A5) (a6 : A6) (a7 : A7) (a8 : A8) (P : A1 → A2 → A3 → A4 → A5 → A6 → A7 → A8 → Prop) (hP : P a1 a2 a3 a4 a5 a6 a7 a8) (e : Γ = Γs a1 a2 a3 a4 a5 a6 a7 a8) (h : ∀ b1 b2 b3 b4 b5 b6 b7 b8, P b1 b2 b3 b4 b5 b6 b7 b8 → DSs X R rest (Γs b1 b2 b3 b4 b5 b6 b7 b8) (of b1 b2 b3 b4 b5 b6 b7 b8)) (e2 : o' = of a1 a2 a3 a4 a5 a6 a7 a8) : Cont X R (.nx Γ) rest o' := by
  subst e; subst e2; exact cont_nx (h a1 a2 a3 a4 a5 a6 a7 a8 hP)
end Dn

set_option Elab.async false
set_option linter.all false
set_option maxRecDepth 100000
set_option maxHeartbeats 1000000
/-! Dn, part 14: a list of lists of its own. -/
namespace Dn
open PySem PySem.Spec PyProof.Rows L2 TL

section
variable {K : PySem.W.Frag} {F : Fx} {G H : Hp} {σ : L2.St} {Γ : List Slot} {i : Nat} {t : Ty} {xss : List (List t.den)}
/-- less is held aside -/
theorem Wd.less {T' : Hp} (W : Wd K { F with T := T' } G σ H Γ) (sm : Same F.T T') : Wd K F G σ H Γ where
  len := W.len
  gh := W.gh
  th := fun c o e => W.th c o (sm c o e)
  tg := fun c o e hn => W.tg c o (sm c o e) hn
  sl := fun j s e => by
    have q := W.sl j s e
    cases s with
    | un => exact q
    | fr t x => exact q
    | mb t x => exact q
    | ns t x => exact q
    | ow pin o =>
      obtain ⟨a, ho, h1, h2, h3, h4, h5, h6⟩ := q
      exact ⟨a, ho, h1, h2, sm.free h3, h4, h5, h6⟩
  dj := W.dj
  ns := W.ns.go (fun _ _ _ e => ⟨e, rfl⟩) (Same.refl G) fun a o q1 q2 q3 q4 => ⟨q1, q2, sm.free q3, q4⟩
/-- T and empty lists at the places as -/
def ext (T : Hp) (as : List Addr) : Hp := fun c => if c ∈ as then some (.lst []) else T c
theorem ext_nil {T : Hp} : ext T [] = T := by funext c; simp [ext]
theorem ext_snoc {T : Hp} {as : List Addr} {p : Addr} : ext T (as ++ [p]) = upd (ext T as) p (.lst []) := by
  funext c
  by_cases h : c = p
  · subst h; rw [upd_same]; simp [ext]
  · rw [upd_ne h]; simp [ext, h]
theorem upd_swap {T : Hp} {p r : Addr} {a b : HO} (h : p ≠ r) : upd (upd T p a) r b = upd (upd T r b) p a := by
  funext c
  by_cases h1 : c = p
  · subst h1; rw [upd_ne h, upd_same, upd_same]
  · by_cases h2 : c = r
    · subst h2; rw [upd_same, upd_ne h1, upd_same]
    · rw [upd_ne h2, upd_ne h1, upd_ne h1, upd_ne h2]
theorem same_ext {T : Hp} {as : List Addr} (h : ∀ a ∈ as, T a = none) : Same T (ext T as) := fun c o e => by
  unfold ext
  rw [if_neg fun m => by rw [h c m] at e; cases e]
  exact e
/-- the list at D of the empty lists at as is owned by slot i -/
theorem Wd.setNs {D : Addr} {as : List Addr} (W : Wd K { F with T := upd (ext F.T as) D (.lst (as.map V.ref)) } G σ H Γ) (hD : F.T D = none) (ha : ∀ a ∈ as, F.T a = none) (hn : D ∉ as) (hd : as.Nodup)
    (one : ∀ (j : Nat) (s : Slot), Γ[j]? = some s → s.isNs = true → j = i) (il : i < Γ.length) : Wd K F G (σ.set i (some (.ref D))) H (Γ.set i (.ns t (as.map fun _ => []))) := by
  have sm : Same F.T (upd (ext F.T as) D (.lst (as.map V.ref))) := fun c o e => by
    rw [upd_ne (ne_of_none e hD)]; exact same_ext ha c o e
  have atT : ∀ a ∈ D :: as, ∃ o, (upd (ext F.T as) D (.lst (as.map V.ref))) a = some o ∧ NT o := fun a m => by
    by_cases h : a = D
    · subst h; exact ⟨_, upd_same, fun _ z => by cases z⟩
    · rw [upd_ne h]
      have : a ∈ as := by rcases List.mem_cons.mp m with z | z; exact absurd z h; exact z
      exact ⟨_, by unfold ext; rw [if_pos this], fun _ z => by cases z⟩
  have W0 := W.less sm
  have noo : ∀ a ∈ D :: as, ∀ (j : Nat) (s : Slot), Γ[j]? = some s → s.isOw = true → σ[j]? ≠ some (some (.ref a)) := fun a m j s e o z => by
    cases s with
    | ow pin o' =>
      obtain ⟨b, ho, h1, h2, h3, _⟩ := W.sl j _ e
      rw [z] at h1; cases h1
      obtain ⟨u, hu, _⟩ := atT a m
      have h3' : (upd (ext F.T as) D (.lst (as.map V.ref))) a = none := h3
      rw [hu] at h3'; cases h3'
    | _ => cases o
  refine ⟨by rw [List.length_set, List.length_set]; exact W.len, W.gh, W0.th, W0.tg, fun j s e => ?_, fun j k s s' q ne e1 o1 e2 o2 h1 h2 => ?_, fun j t' x' e => ?_⟩
  · rcases set_get e with ⟨rfl, rfl, _⟩ | ⟨hj, e⟩
    · trivial
    · rw [List.getElem?_set_ne hj]; exact W0.sl j s e
  · obtain ⟨hj, e1⟩ := set_ow rfl e1 o1
    obtain ⟨hk, e2⟩ := set_ow rfl e2 o2
    rw [List.getElem?_set_ne hj] at h1
    rw [List.getElem?_set_ne hk] at h2
    exact W.dj j k s s' q ne e1 o1 e2 o2 h1 h2
  · have hj : i = j := by
      rcases set_get e with ⟨h, _, _⟩ | ⟨hj, e⟩
      · exact h
      · exact (one j _ e rfl).symm
    subst hj
    rcases set_get e with ⟨_, h, _⟩ | ⟨hj, _⟩
    · cases h
      refine ⟨fun j s ej sj => ?_, D, as, as.map fun _ => [], List.getElem?_set_self (by rw [W.len]; exact il), W.th D _ upd_same, List.nodup_cons.mpr ⟨hn, hd⟩, ?_, ?_, fun a m => ⟨?_, ?_, fun j s e o => ?_⟩⟩
      · rcases set_get ej with ⟨h, _, _⟩ | ⟨_, ej⟩
        · exact h.symm
        · exact one j s ej sj
      · have : ∀ l : List Addr, (∀ a ∈ l, a ∈ as) → Paired (fun a vs => H a = some (.lst vs)) l (l.map fun _ => []) := by
          intro l
          induction l with
          | nil => intro _; exact .nil
          | cons a l ih =>
            intro h
            refine .cons ?_ (ih fun b m => h b (List.mem_cons_of_mem _ m))
            have ma := h a (List.mem_cons_self ..)
            refine W.th a _ ?_
            show upd (ext F.T as) D _ a = _
            rw [upd_ne (fun z => by subst z; exact hn ma)]
            unfold ext; rw [if_pos ma]
        exact this as fun _ m => m
      · have : ∀ l : List Addr, Paired (fun vs xs => RepL K t G vs xs) (l.map fun _ => []) (l.map fun _ => []) := by
          intro l
          induction l with
          | nil => exact .nil
          | cons a l ih => exact .cons .nil ih
        exact this as
      · obtain ⟨o, ho, hnt⟩ := atT a m
        exact W.tg a o ho hnt
      · rcases List.mem_cons.mp m with rfl | m
        · exact hD
        · exact ha a m
      · obtain ⟨hj, e⟩ := set_ow rfl e o
        rw [List.getElem?_set_ne hj]
        exact noo a m j s e o
    · exact absurd rfl hj
theorem pair_nth {α β : Type} {P : α → β → Prop} {l : List α} {m : List β} (h : Paired P l m) {k : Nat} (hk : k < l.length) : ∃ a b, l[k]? = some a ∧ m[k]? = some b ∧ P a b := by
  have hm : k < m.length := by rw [← pair_len h]; exact hk
  obtain ⟨a, h1, h2⟩ := pair_get h (List.getElem?_eq_getElem hm)
  exact ⟨a, _, h1, List.getElem?_eq_getElem hm, h2⟩
theorem pair_nthmap {α β : Type} {P Q : α → β → Prop} {l : List α} {m : List β} (h : Paired P l m) (g : ∀ (j : Nat) (b : α) (c : β), l[j]? = some b → P b c → Q b c) : Paired Q l m := by
  induction h with
  | nil => exact .nil
  | cons r _ ih => exact .cons (g 0 _ _ rfl r) (ih fun j b c e => g (j + 1) b c (by simpa using e))
theorem nodup_at {α : Type} : ∀ {l : List α} {i j : Nat} {a : α}, l.Nodup → l[i]? = some a → l[j]? = some a → i = j
  | [], i, _, _, _, e, _ => by simp at e
  | x :: l, 0, 0, _, _, _, _ => rfl
  | x :: l, 0, j + 1, a, n, e, e' => by
    simp at e e'; subst e
    exact absurd (List.mem_of_getElem? e') (List.nodup_cons.mp n).1
  | x :: l, i + 1, 0, a, n, e, e' => by
    simp at e e'; subst e'
    exact absurd (List.mem_of_getElem? e) (List.nodup_cons.mp n).1
  | x :: l, i + 1, j + 1, a, n, e, e' => by
    rw [nodup_at (i := i) (j := j) (List.nodup_cons.mp n).2 (by simpa using e) (by simpa using e')]
theorem pair_setL {α β : Type} {P Q : α → β → Prop} {y : β} : ∀ {l : List α} {m : List β} {k : Nat} {a : α}, Paired P l m → l[k]? = some a → Q a y → (∀ j b c, j ≠ k → l[j]? = some b → P b c → Q b c) → Paired Q l (m.set k y)
  | _, _, k, a, .nil, e, _, _ => by simp at e
  | _, _, 0, a, .cons r t, e, q, f => by
    simp at e; subst e
    refine .cons q ?_
    exact pair_nthmap t fun j b c e => f (j + 1) b c (by omega) (by simpa using e)
  | _, _, k + 1, a, .cons r t, e, q, f => .cons (f 0 _ _ (by omega) rfl r) (pair_setL t (by simpa using e) q fun j b c ne e => f (j + 1) b c (by omega) (by simpa using e))
/-- one of the lists is changed -/
theorem Wd.nsPut {k : Nat} {xs' : List t.den} {vs' : List V} {a : Addr} {p : Addr} {as : List Addr} {vss : List (List V)} (W : Wd K F G σ H Γ) (h : Γ[i]? = some (.ns t xss)) (one : ∀ (j : Nat) (s : Slot), Γ[j]? = some s → s.isNs = true → j = i)
    (h1 : σ[i]? = some (some (.ref p))) (h2 : H p = some (.lst (as.map V.ref))) (h3 : (p :: as).Nodup) (h4 : Paired (fun a vs => H a = some (.lst vs)) as vss) (h5 : Paired (fun vs xs => RepL K t G vs xs) vss xss)
    (h6 : ∀ a ∈ p :: as, G a = none ∧ F.T a = none ∧ ∀ (j : Nat) (s : Slot), Γ[j]? = some s → s.isOw = true → σ[j]? ≠ some (some (.ref a))) (hk : as[k]? = some a) (r : RepL K t G vs' xs') : Wd K F G σ (upd H a (.lst vs')) (Γ.set i (.ns t (xss.set k xs'))) := by
  have ma : a ∈ as := List.mem_of_getElem? hk
  have ha := h6 a (List.mem_cons_of_mem _ ma)
  have il : i < Γ.length := (List.getElem?_eq_some_iff.mp h).1
  have np : p ≠ a := fun z => by subst z; exact (List.nodup_cons.mp h3).1 ma
  refine ⟨by rw [List.length_set]; exact W.len, fun c o e => ?_, fun c o e => ?_, W.tg, fun j s e => ?_, fun j l s s' q ne e1 o1 e2 o2 q1 q2 => ?_, fun j t' x' e => ?_⟩
  · rw [upd_ne (ne_of_none e ha.1)]; exact W.gh c o e
  · rw [upd_ne (ne_of_none e ha.2.1)]; exact W.th c o e
  · rcases set_get e with ⟨rfl, rfl, _⟩ | ⟨hj, e⟩
    · trivial
    · have q := W.sl j s e
      cases s with
      | un => exact q
      | fr t x => exact q
      | mb t x => exact q
      | ns t x => exact q
      | ow pin o =>
        obtain ⟨b, ho, g1, g2, g3, g4, g5, g6⟩ := q
        have ne : b ≠ a := fun z => by subst z; exact ha.2.2 j _ e rfl g1
        exact ⟨b, ho, g1, g2, g3, by rw [upd_ne ne]; exact g4, g5, g6⟩
  · obtain ⟨hj, e1⟩ := set_ow rfl e1 o1
    obtain ⟨hk, e2⟩ := set_ow rfl e2 o2
    exact W.dj j l s s' q ne e1 o1 e2 o2 q1 q2
  · have hj : i = j := by
      rcases set_get e with ⟨h, _, _⟩ | ⟨hj, e⟩
      · exact h
      · exact (one j _ e rfl).symm
    subst hj
    rcases set_get e with ⟨_, e', _⟩ | ⟨hj, _⟩
    · cases e'
      refine ⟨fun j s ej sj => ?_, p, as, vss.set k vs', h1, by rw [upd_ne np]; exact h2, h3, ?_, ?_, fun c m => ⟨(h6 c m).1, (h6 c m).2.1, fun j s e o => (h6 c m).2.2 j s (set_ow rfl e o).2 o⟩⟩
      · rcases set_get ej with ⟨h, _, _⟩ | ⟨_, ej⟩
        · exact h.symm
        · exact one j s ej sj
      · refine pair_setL h4 hk upd_same fun j b c ne e q => ?_
        have : b ≠ a := fun z => by
          subst z
          exact ne (nodup_at (List.nodup_cons.mp h3).2 e hk)
        rw [upd_ne this]; exact q
      · exact pair_set r k h5
    · exact absurd rfl hj
/-- the whole is frozen -/
theorem ent_nsf (i : Nat) {t : Ty} {xss : List (List t.den)} (h : Γ[i]? = some (.ns t xss) := by rfl) : Ent K Γ (Γ.set i (.fr (.lst (.lst t)) xss)) := fun F G σ H W => by
  obtain ⟨one, p, as, vss, h1, h2, h3, h4, h5, h6⟩ := W.ns i t xss h
  have il : i < Γ.length := (List.getElem?_eq_some_iff.mp h).1
  let G' : Hp := fun c => if c ∈ p :: as then H c else G c
  have gin : ∀ c, c ∈ p :: as → G' c = H c := fun c m => if_pos m
  have gout : ∀ c, c ∉ p :: as → G' c = G c := fun c m => if_neg m
  have sm : Same G G' := fun c o e => by
    by_cases m : c ∈ p :: as
    · rw [(h6 c m).1] at e; cases e
    · rw [gout c m]; exact e
  have rep : Rep K (.lst (.lst t)) G' (.ref p) xss := by
    refine ⟨p, as.map V.ref, rfl, .inl ((gin p (List.mem_cons_self ..)).trans h2), ?_⟩
    have : ∀ {l : List Addr} {vs : List (List V)} {ys : List (List t.den)}, (∀ a ∈ l, a ∈ as) → Paired (fun a vs => H a = some (.lst vs)) l vs → Paired (fun vs xs => RepL K t G vs xs) vs ys → Paired (fun u y => Rep K (.lst t) G' u y) (l.map V.ref) ys := by
      intro l vs ys hm p1
      induction p1 generalizing ys with
      | nil => intro p2; cases p2; exact .nil
      | @cons a v _ _ r _ ih =>
        intro p2
        cases p2 with
        | cons r2 p2 => exact .cons ⟨a, v, rfl, .inl ((gin a (List.mem_cons_of_mem _ (hm a (List.mem_cons_self ..)))).trans r), repL_mono sm r2⟩ (ih (fun b m => hm b (List.mem_cons_of_mem _ m)) p2)
    exact this (fun _ m => m) h4 h5
  refine ⟨G', sm, by rw [List.length_set]; exact W.len, fun c o e => ?_, W.th, fun c o e => ?_, fun j s e => ?_, fun j k s s' q ne e1 o1 e2 o2 q1 q2 => ?_, ?_⟩
  · by_cases m : c ∈ p :: as
    · rw [← gin c m]; exact e
    · rw [gout c m] at e; exact W.gh c o e
  · have m : c ∉ p :: as := fun m => by rw [(h6 c m).2.1] at e; cases e
    rw [gout c m]; exact fun hn => W.tg c o e hn
  · rcases set_get e with ⟨rfl, rfl, _⟩ | ⟨hj, e⟩
    · exact ⟨.ref p, h1, rep⟩
    · have q := W.sl j s e
      cases s with
      | un => exact q
      | fr t x => obtain ⟨v, e1, e2⟩ := q; exact ⟨v, e1, rep_mono sm t v x e2⟩
      | mb t x => exact fun y hy => by obtain ⟨v, e1, e2⟩ := q y hy; exact ⟨v, e1, rep_mono sm t v y e2⟩
      | ns t x => exact q
      | ow pin o =>
        obtain ⟨b, ho, g1, g2, g3, g4, g5, g6⟩ := q
        have m : b ∉ p :: as := fun m => (h6 b m).2.2 j _ e rfl g1
        exact ⟨b, ho, g1, by rw [gout b m]; exact g2, g3, g4, own_mono sm g5, g6⟩
  · exact W.dj j k s s' q ne (set_ow rfl e1 o1).2 o1 (set_ow rfl e2 o2).2 o2 q1 q2
  · refine NsOk.no fun j s e => ?_
    rcases set_get e with ⟨_, rfl, _⟩ | ⟨hj, e⟩
    · rfl
    · cases hs : s.isNs with
      | false => rfl
      | true => exact absurd (one j s e hs).symm hj
end

section
variable {X : Cx} {ρ : Type} {R : RI ρ} {Γ Γ1 : List Slot} {e ie : Expr} {pos npos apos cpos ipos : Pos} {t : Ty} {xss : List (List t.den)} {n : Str}
/-- n[k].append(x) -/
theorem ds_nsapp (i j : Nat) {m : Str} {mpos : Pos} {x : t.den} {k : Int} (hk : IxOk xss.length k) (hz : Sz (get [] xss k).length) (hie : DE X ie Γ .int k Γ) (hj : Γ[j]? = some (.fr t x) := by rfl) (hM : X.N[j]? = some m := by rfl) (hvm : Vis X.env.scope m := by first | exact Or.inl rfl | exact Or.inr (Or.inl rfl) | exact Or.inr (Or.inr rfl)) (h : Γ[i]? = some (.ns t xss) := by rfl) (hN : X.N[i]? = some n := by rfl) (hv : Vis X.env.scope n := by first | exact Or.inl rfl | exact Or.inr (Or.inl rfl) | exact Or.inr (Or.inr rfl))
    (hd : (n == ("__debug__" : Str)) = false := by decide) (hcd : (n == ("__classdict__" : Str)) = false := by decide) (hdm : (m == ("__debug__" : Str)) = false := by decide) (hcdm : (m == ("__classdict__" : Str)) = false := by decide) (hpx : PlainIx ie := by exact fun _ _ => rfl) (hbase : attributeBase (.Subscript (.Name n npos) ie ipos) "append" X.env (eval (.Subscript (.Name n npos) ie ipos) X.env) = eval (.Subscript (.Name n npos) ie ipos) X.env := by rfl)
    (hfew : ((backTo cpos (starEach [.Name m mpos] X.env)).all (fun x => !x.1) && (backToKw cpos (keywordEach [] X.env)).all (fun x => x.1.isSome) && decide (([.Name m mpos] : List Expr).length + ([] : List Keyword).length + (if ([] : List Keyword).isEmpty then 0 else 1) < 30)) = true := by rfl)
    (hline : (apos.endLine == cpos.line) = true := by rfl) (hs : starEach [.Name m mpos] X.env = (false, eval (.Name m mpos) X.env) :: starEach [] X.env := by rfl) (hpl : (backTo cpos (starEach [] X.env)).any (·.1) = false := by rfl) (hsw : swapsWith (.Call (.Attribute (.Subscript (.Name n npos) ie ipos) "append" apos) [.Name m mpos] [] cpos) none pos.line X.env = pure false := by rfl) :
    DS X R (.Expr (.Call (.Attribute (.Subscript (.Name n npos) ie ipos) "append" apos) [.Name m mpos] [] cpos) pos) Γ (.nx (Γ.set i (.ns t (xss.set (ix xss.length k) (get [] xss k ++ [x]))))) := fun F G σ H W D q => by
  obtain ⟨_, p0, _, _, g1, _⟩ := W.ns i t xss h
  obtain ⟨kk, kl⟩ := ixN_ok hk
  refine wps_of (ps_expr (pe_bm PySem.F.plainAttrs_list PySem.F.slot_list_append PySem.F.type_list_append mt_append (pe_ix ix_list (pe_var hN hv hd hcd) pe_wp hpx) (pa_cons (pe_var hM hvm hdm hcdm) pa_nil hs) hbase hfew hline hs hpl) hsw) ⟨.ref p0, g1, hie F G σ H W _ fun w G1 H1 s1 W1 r1 => ?_⟩
  obtain ⟨one, p, as, vss, h1, h2, h3, h4, h5, h6⟩ := W1.ns i t xss h
  rw [g1] at h1; cases h1
  have e45 : as.length = xss.length := (pair_len h4).trans (pair_len h5)
  obtain ⟨a, vs, a1, a2, a3⟩ := pair_nth h4 (k := ix xss.length k) (by rw [e45]; exact kl)
  obtain ⟨v, hv1, r2⟩ := W1.sl j _ hj
  refine ⟨p0, as.map V.ref, k, .ref a, rfl, r1, .inl (.inl h2), ?_, .inl ⟨rfl, vs, .inl (.inl a3)⟩, ⟨v, hv1, ?_⟩⟩
  · unfold atI
    rw [List.length_map, e45, kk]
    show (as.map V.ref)[ix xss.length k]? = _
    rw [List.getElem?_map, a1]; rfl
  · have hg : get [] xss k = xss[ix xss.length k] := by unfold get; rw [List.getElem?_eq_getElem kl]; rfl
    have rr : RepL X.K t G1 vs (get [] xss k) := by
      obtain ⟨vs', e1, e2⟩ := pair_get h5 (List.getElem?_eq_getElem kl)
      rw [a2] at e1; cases e1
      rw [hg]; exact e2
    exact ⟨a, vs, v, rfl, rfl, a3, by rw [pair_len rr]; exact hz.lt, q σ G1 _ s1 (W1.nsPut h one g1 h2 h3 h4 h5 h6 a1 (pair_app rr (.cons r2 .nil)))⟩
end
section
variable {X : Cx} {ρ : Type} {R : RI ρ} {α : Type} {ys : List α} {t : Ty} {Γ : List Slot} {tg iter : Expr} {scope : Scope} {g : TG} {B : α → List Slot → List Slot} {tgs : List Nat} {pos lpos : Pos}
/-- n = [[] for .. in ..] -/
theorem ds_nsnew (i : Nat) (t : Ty) (own : List (Str × Nat)) {y : Str} {py spos : Pos} (hi : DI X tg iter g Γ ys B tgs Γ) (hg : ∀ (sh : Shared) (H : Hp) (C : Addr) (cl : List (Str × Addr)) (fp : List Addr), PG (X.blk sh H scope (compEnvC scope cl C X.env) fp) tg g) (hz : Sz ys.length)
    (hk : ∀ y, Wk (B y Γ) Γ) (ok : BlkOk X.N X.env.scope scope own) (hN : X.N.Nodup) (one : Γ.all (fun s => !s.isNs) = true := by rfl) (hw : wipeS Γ (own.map (·.2)) = Γ := by rfl) (htg : ∀ i ∈ tgs, i ∈ own.map (·.2) := by decide)
    (il : i < Γ.length := by exact Nat.le_of_ble_eq_true rfl) (hy : X.N[i]? = some y := by rfl) (hyl : X.env.scope.names.lookup y = some .local := by rfl)
    (hsw : swapsWith (.ListComp (.List [] lpos) [⟨tg, iter, [], 0⟩] scope pos) (some (.Name y py)) spos.line X.env = pure true := by exact sw_true rfl rfl rfl (by decide +kernel)) (hc : X.calm = true := by rfl) (hs : ∀ x, foldedSetIterable iter X.env x = pure x := by intro _; rfl) :
    DS X R (.Assign [.Name y py] (.ListComp (.List [] lpos) [⟨tg, iter, [], 0⟩] scope pos) spos) Γ (.nx (Γ.set i (.ns t (ys.map fun _ => [])))) := fun F G σ H W Dd q => by
  refine wps_of (ps_setLc (wi := WPI X tg iter) (g := g) (tt := fun σ H Q => ∀ (sh : Shared) (H0 : Hp) (C : Addr) (cl : List (Str × Addr)) (fp : List Addr), WPTs (X.blk sh H0 scope (compEnvC scope cl C X.env) fp) [] σ H Q)
    (te := fun σ H Q => ∀ (sh : Shared) (H0 : Hp) (C : Addr) (cl : List (Str × Addr)) (fp : List Addr), WPE (X.blk sh H0 scope (compEnvC scope cl C X.env) fp) (.List [] lpos) σ H Q) hc hN hy hyl hsw pi_wp ok hg
    (fun sh H C cl fp => ⟨fun pins s σ H' Q I h => h sh H C cl fp pins s I⟩) (fun sh H C cl fp => ⟨fun pins s σ H' Q I h => h sh H C cl fp pins s I⟩) hs) ?_
  show tLc _ g _ _ (own.map (·.2)) σ H fun x H1 => gName i x σ H1 Dd.nx
  refine hi F G σ H W _ fun J G1 H1 sg1 W1 it => ?_
  intro D hD
  have hT : F.T D = none := W1.tn hD
  refine ⟨fun k m H' => m = ys.length - k ∧ k ≤ ys.length ∧ ∃ (G' : Hp) (as : List Addr), Same G1 G' ∧ Wd X.K { F with T := upd (ext F.T as) D (.lst (as.map V.ref)) } G' σ H' Γ ∧ as.length = k ∧ D ∉ as ∧ as.Nodup ∧ ∀ a ∈ as, F.T a = none,
    ⟨ys.length, by omega, by omega, G1, [], Same.refl _, by rw [ext_nil]; exact W1.new hD, rfl, by simp, List.nodup_nil, fun a m => by cases m⟩, ?_⟩
  rintro k m H' ⟨rfl, hk', G', as, sg', W', hl', hDa, hnd, hTa⟩
  by_cases hl : k < ys.length
  · refine .inr ⟨it.go k G' H' sg' W'.gh hl, ?_⟩
    refine ⟨fun H3 => ∃ (G3 : Hp) (as : List Addr), Same G1 G3 ∧ Wd X.K { F with T := upd (ext F.T as) D (.lst (as.map V.ref)) } G3 σ H3 Γ ∧ as.length = k + 1 ∧ D ∉ as ∧ as.Nodup ∧ ∀ a ∈ as, F.T a = none,
      fun H3 ⟨G3, as', a1, a2, a3, a4, a5, a6⟩ => ⟨ys.length - (k + 1), by omega, rfl, hl, G3, as', a1, a2, a3, a4, a5, a6⟩, fun v H3 y => ?_⟩
    refine it.yld { F with T := upd (ext F.T as) D (.lst (as.map V.ref)) } k ys[k] G' (wipe σ (own.map (·.2))) H' Γ v H3 _ sg' (W'.wiped hw) (List.getElem?_eq_getElem hl) y fun G3 σ3 H4 sg3 at3 W3 => ?_
    refine ⟨wipe_back at3 htg, fun sh H0 C cl fp => ?_⟩
    refine (dts_nil (X := X.blk sh H0 scope (compEnvC scope cl C X.env) fp)) _ G3 σ3 H4 W3 _ fun G4 H5 sg4 W4 => ?_
    rw [if_pos rfl]
    intro sh2 H02 C2 cl2 fp2
    refine (do_lst (X := X.blk sh2 H02 scope (compEnvC scope cl2 C2 X.env) fp2) (t := t) dls_nil (sz_of rfl)) _ G4 σ3 H5 W4 _ fun p ho G5 H6 sg5 W5 hTp okp => ?_
    obtain ⟨vs0, rfl, r0⟩ := okp
    cases r0
    have hTp' : upd (ext F.T as) D (.lst (as.map V.ref)) p = none := hTp
    have pD : p ≠ D := fun z => by subst z; rw [upd_same] at hTp'; cases hTp'
    rw [upd_ne pD] at hTp'
    have pas : p ∉ as := fun m => by unfold ext at hTp'; rw [if_pos m] at hTp'; cases hTp'
    have pT : F.T p = none := by unfold ext at hTp'; rw [if_neg pas] at hTp'; exact hTp'
    have W6 := (W5.weak (hk _)).unwiped hw at3 htg
    have et : upd (upd (ext F.T as) D (.lst (as.map V.ref))) p (.lst []) = upd (ext F.T (as ++ [p])) D (.lst (as.map V.ref)) := by rw [ext_snoc]; exact upd_swap pD.symm
    have W7 : Wd X.K { F with T := upd (ext F.T (as ++ [p])) D (.lst (as.map V.ref)) } G5 σ H6 Γ := by rw [← et]; exact W6
    have W8 : Wd X.K { ({ F with T := ext F.T (as ++ [p]) } : Fx) with T := upd ({ F with T := ext F.T (as ++ [p]) } : Fx).T D (.lst (as.map V.ref)) } G5 σ H6 Γ := W7
    refine ⟨as.map V.ref, W8.held.1, ?_, G5, as ++ [p], ((sg'.trans sg3).trans sg4).trans sg5, ?_, by simp [hl'], ?_, ?_, ?_⟩
    · rw [List.length_map]; have := hz.lt; omega
    · have := W8.grow (ho' := .lst (as.map V.ref ++ [.ref p]))
      rw [List.map_append]; exact this
    · rw [List.mem_append, List.mem_singleton]; rintro (z | z)
      · exact hDa z
      · exact pD z.symm
    · rw [List.nodup_append]; exact ⟨hnd, by simp, fun a ma b mb => by rw [List.mem_singleton] at mb; subst mb; exact fun z => pas (z ▸ ma)⟩
    · intro a ma
      rcases List.mem_append.mp ma with z | z
      · exact hTa a z
      · rw [List.mem_singleton] at z; subst z; exact pT
  · have e : k = ys.length := by omega
    subst e
    refine .inl ⟨it.stop G' H' sg' W'.gh, ?_⟩
    have W2 := W'.setNs (t := t) (i := i) hT hTa hDa hnd (fun j s e o => by
      have := List.all_eq_true.mp one s (List.mem_of_getElem? e)
      rw [o] at this; cases this) il
    have em : as.map (fun _ => ([] : List t.den)) = ys.map fun _ => [] := by
      rw [List.map_const', List.map_const', hl']
    rw [em] at W2
    exact q _ G' H' (sg1.trans sg') W2
end
end Dn

set_option Elab.async false
set_option linter.all false
set_option maxRecDepth 100000
set_option maxHeartbeats 1000000
/-! Dn, part 15: owned lists lent to a call; [x] * n; t.index; is None; while. -/
namespace Dn
open PySem PySem.Spec PyProof.Rows L2 TL

theorem allMem_nil {α : Type} {P : α → Prop} : ∀ y ∈ ([] : List α), P y := fun y h => by cases h
theorem allMem_cons {α : Type} {P : α → Prop} {a : α} {l : List α} (h : P a) (t : ∀ y ∈ l, P y) : ∀ y ∈ a :: l, P y := fun y m => by
  rcases List.mem_cons.mp m with rfl | m
  · exact h
  · exact t y m
/-! ### lent -/
def Ty.noLst : Ty → Bool
  | .int => true | .bool => true | .str => true | .non => true | .scr => false | .si => true
  | .opt t => t.noLst | .lst _ => false | .tup t => t.noLst | .iu t => t.noLst
  | .p2 a b => a.noLst && b.noLst | .p3 a b c => a.noLst && b.noLst && c.noLst | .p4 a b c d => a.noLst && b.noLst && c.noLst && d.noLst | .p5 a b c d e => a.noLst && b.noLst && c.noLst && d.noLst && e.noLst
/-- without the cell p -/
def del (G : Hp) (p : Addr) : Hp := fun c => if c = p then none else G c
theorem del_ne {G : Hp} {p c : Addr} (h : c ≠ p) : del G p c = G c := if_neg h
theorem del_same {G : Hp} {p : Addr} : del G p p = none := if_pos rfl
section
variable {K : PySem.W.Frag}
theorem sqt_del {G : Hp} {p a : Addr} {vs xs : List V} (hp : G p = some (.lst vs)) (h : SqT K G a xs) : SqT K (del G p) a xs := by
  rcases h with h | h
  · have ne : a ≠ p := by
      rintro rfl
      rcases h with h | ⟨o, h⟩ <;> rw [hp] at h <;> cases h
    rcases h with h | ⟨o, h⟩
    · exact .inl (.inl (by rw [del_ne ne]; exact h))
    · exact .inl (.inr ⟨o, by rw [del_ne ne]; exact h⟩)
  · exact .inr h
theorem tup_del {G : Hp} {p a : Addr} {vs xs : List V} (hp : G p = some (.lst vs)) (h : G a = some (.tup xs)) : del G p a = some (.tup xs) := by
  have ne : a ≠ p := by rintro rfl; rw [hp] at h; cases h
  rw [del_ne ne]; exact h
theorem tupD_del {G : Hp} {p a : Addr} {vs xs : List V} (hp : G p = some (.lst vs)) (h : TupD G a xs) : TupD (del G p) a xs := by
  obtain ⟨o, e, d⟩ := h
  have ne : a ≠ p := by rintro rfl; rw [hp] at e; cases e
  exact ⟨o, by rw [del_ne ne]; exact e, d⟩
theorem rep_del {G : Hp} {p : Addr} {vs : List V} (hp : G p = some (.lst vs)) : ∀ (t : Ty) (v : V) (x : t.den), t.noLst = true → Rep K t G v x → Rep K t (del G p) v x
  | .int, _, _, _, h => h
  | .bool, _, _, _, h => h
  | .str, _, _, _, h => h
  | .non, _, _, _, h => h
  | .scr, _, _, n, _ => by cases n
  | .opt t, v, none, _, h => h
  | .opt t, v, some y, n, h => ⟨h.1, rep_del hp t v y n h.2⟩
  | .lst t, _, _, n, _ => by cases n
  | .tup t, _, _, n, ⟨a, ws, h1, h2, h3⟩ => ⟨a, ws, h1, tupD_del hp h2, pm h3 fun u y q => rep_del hp t u y n q⟩
  | .si, _, .inl i, _, h => h
  | .si, _, .inr i, _, h => h
  | .iu t, _, .inl i, _, h => h
  | .iu t, _, .inr y, n, ⟨a, ws, h1, h2, h3⟩ => ⟨a, ws, h1, tupD_del hp h2, pm h3 fun u y q => rep_del hp t u y n q⟩
  | .p2 a b, _, _, n, ⟨q, v1, v2, h0, h1, h2, h3⟩ => by
    simp only [Ty.noLst, Bool.and_eq_true] at n
    exact ⟨q, v1, v2, h0, tup_del hp h1, rep_del hp a _ _ n.1 h2, rep_del hp b _ _ n.2 h3⟩
  | .p3 a b c, _, _, n, ⟨q, v1, v2, v3, h0, h1, h2, h3, h4⟩ => by
    simp only [Ty.noLst, Bool.and_eq_true] at n
    exact ⟨q, v1, v2, v3, h0, tup_del hp h1, rep_del hp a _ _ n.1.1 h2, rep_del hp b _ _ n.1.2 h3, rep_del hp c _ _ n.2 h4⟩
  | .p4 a b c d, _, _, n, ⟨q, v1, v2, v3, v4, h0, h1, h2, h3, h4, h5⟩ => by
    simp only [Ty.noLst, Bool.and_eq_true] at n
    exact ⟨q, v1, v2, v3, v4, h0, sqt_del hp h1, rep_del hp a _ _ n.1.1.1 h2, rep_del hp b _ _ n.1.1.2 h3, rep_del hp c _ _ n.1.2 h4, rep_del hp d _ _ n.2 h5⟩
  | .p5 a b c d e, _, _, n, ⟨q, v1, v2, v3, v4, v5, h0, h1, h2, h3, h4, h5, h6⟩ => by
    simp only [Ty.noLst, Bool.and_eq_true] at n
    exact ⟨q, v1, v2, v3, v4, v5, h0, sqt_del hp h1, rep_del hp a _ _ n.1.1.1.1 h2, rep_del hp b _ _ n.1.1.1.2 h3, rep_del hp c _ _ n.1.1.2 h4, rep_del hp d _ _ n.1.2 h5, rep_del hp e _ _ n.2 h6⟩
/-- slots ahead of and behind a loan: frozen ones stay, owned ones keep to things without lists -/
inductive Bw : List Slot → List Slot → Prop where
  | nil : Bw [] []
  | un {l m : List Slot} (h : Bw l m) : Bw (.un :: l) (.un :: m)
  | gone {s : Slot} {l m : List Slot} (h : Bw l m) : Bw (s :: l) (.un :: m)
  | fr {t : Ty} {x : t.den} {l m : List Slot} (h : Bw l m) : Bw (.fr t x :: l) (.fr t x :: m)
  | ow {pin : Bool} {t : Ty} {xs ys : List t.den} {l m : List Slot} (n : t.noLst = true) (h : Bw l m) : Bw (.ow pin (.lst t xs) :: l) (.ow pin (.lst t ys) :: m)
theorem Bw.get {l m : List Slot} (h : Bw l m) : ∀ (i : Nat) (s : Slot), m[i]? = some s → s = .un ∨ (∃ t x, s = .fr t x ∧ l[i]? = some (.fr t x)) ∨ (∃ pin t xs ys, t.noLst = true ∧ s = .ow pin (.lst t ys) ∧ l[i]? = some (.ow pin (.lst t xs))) := by
  induction h with
  | nil => intro i s e; simp at e
  | un _ ih => intro i s e; cases i with
    | zero => exact .inl (by simpa using e.symm)
    | succ i => simpa using ih i s (by simpa using e)
  | gone _ ih => intro i s e; cases i with
    | zero => exact .inl (by simpa using e.symm)
    | succ i => simpa using ih i s (by simpa using e)
  | @fr t x _ _ _ ih => intro i s e; cases i with
    | zero => exact .inr (.inl ⟨t, x, by simpa using e.symm, rfl⟩)
    | succ i => simpa using ih i s (by simpa using e)
  | @ow pin t xs ys _ _ n _ ih => intro i s e; cases i with
    | zero => exact .inr (.inr ⟨pin, t, xs, ys, n, by simpa using e.symm, rfl⟩)
    | succ i => simpa using ih i s (by simpa using e)
theorem Bw.len {l m : List Slot} (h : Bw l m) : l.length = m.length := by
  induction h with
  | nil => rfl
  | un _ ih => simp [ih]
  | gone _ ih => simp [ih]
  | fr _ ih => simp [ih]
  | ow _ _ ih => simp [ih]
/-- an owned list lent while te is evaluated -/
theorem ev_lend (i : Nat) {te : TE} {Γ Γ' : List Slot} {t u : Ty} {x : t.den} {xs : List u.den} (h : Ev K te (Γ.set i (.fr (.lst u) xs)) t x Γ') (hi : Γ[i]? = some (.ow false (.lst u xs))) (hb : Bw Γ (Γ'.set i .un)) (hn : t.noLst = true) :
    Ev K te Γ t x (Γ'.set i (.ow false (.lst u xs))) := fun F G σ H W Q q => by
  obtain ⟨p, vs, h1, h2, h3, r, W1⟩ := W.freezeSlot hi
  obtain ⟨p', ho, k1, k2, k3, k4, k5, k6⟩ := W.sl i _ hi
  rw [h1] at k1; cases k1
  have il : i < Γ.length := (List.getElem?_eq_some_iff.mp hi).1
  have ll : Γ'.length = Γ.length := by have := hb.len; rw [List.length_set] at this; exact this.symm
  refine h F _ σ H W1 Q fun v G' H' sg W' rv => ?_
  have hp : G' p = some (.lst vs) := sg p _ upd_same
  have smG : Same G (del G' p) := fun c o e => by
    have ne : c ≠ p := ne_of_none e h2
    rw [del_ne ne]; exact sg c o (by rw [upd_ne ne]; exact e)
  -- what stands in the other slots
  have isl : ∀ (j : Nat) (s : Slot), i ≠ j → Γ'[j]? = some s → s = .un ∨ (∃ t x, s = .fr t x ∧ Γ[j]? = some (.fr t x)) ∨ (∃ pin t xs ys, t.noLst = true ∧ s = .ow pin (.lst t ys) ∧ Γ[j]? = some (.ow pin (.lst t xs))) := fun j s hj e =>
    hb.get j s (by rw [List.getElem?_set_ne hj]; exact e)
  have repl : ∀ {t : Ty} {us : List V} {ys : List t.den}, t.noLst = true → RepL K t G' us ys → RepL K t (del G' p) us ys := fun n q => pm q fun a b z => rep_del hp _ a b n z
  have Wr : Wd K F (del G' p) σ H' (Γ'.set i (.ow false (.lst u xs))) := by
    refine ⟨by rw [List.length_set, ll]; exact W.len, fun c o e => ?_, W'.th, fun c o e => ?_, fun j s e => ?_, fun j k s s' b ne e1 o1 e2 o2 z1 z2 => ?_, NsOk.no fun j s e => ?_⟩
    · by_cases hc : c = p
      · subst hc; rw [del_same] at e; cases e
      · rw [del_ne hc] at e; exact W'.gh c o e
    · by_cases hc : c = p
      · subst hc; exact fun _ => del_same
      · rw [del_ne hc]; exact fun hn => W'.tg c o e hn
    · rcases set_get e with ⟨rfl, rfl, _⟩ | ⟨hj, e⟩
      · exact ⟨p, .lst vs, h1, del_same, k3, W'.gh p _ hp, ⟨vs, rfl, repL_mono smG r⟩, fun z => by cases z⟩
      · rcases isl j s hj e with rfl | ⟨t, y, rfl, e'⟩ | ⟨pin, t, ys, zs, n, rfl, e'⟩
        · trivial
        · obtain ⟨w, w1, w2⟩ := W.sl j _ e'
          exact ⟨w, w1, rep_mono smG t w y w2⟩
        · obtain ⟨a, ho', m1, m2, m3, m4, m5, m6⟩ := W'.sl j _ e
          obtain ⟨us, rfl, m5⟩ := m5
          refine ⟨a, .lst us, m1, ?_, m3, m4, ⟨us, rfl, repl n m5⟩, m6⟩
          by_cases hc : a = p
          · subst hc; exact del_same
          · rw [del_ne hc]; exact m2
    · have np : ∀ (k : Nat) (s : Slot), i ≠ k → Γ'[k]? = some s → s.isOw = true → σ[k]? ≠ some (some (.ref p)) := fun k s hk e o z => by
        cases s with
        | ow pin o' =>
          obtain ⟨a, ho', m1, m2, _⟩ := W'.sl k _ e
          rw [z] at m1; cases m1
          rw [hp] at m2; cases m2
        | _ => cases o
      rcases set_get e1 with ⟨rfl, _, _⟩ | ⟨hj, e1⟩
      · rcases set_get e2 with ⟨rfl, _, _⟩ | ⟨hk, e2⟩
        · exact ne rfl
        · rw [h1] at z1; cases z1
          exact np k s' hk e2 o2 z2
      · rcases set_get e2 with ⟨rfl, _, _⟩ | ⟨hk, e2⟩
        · rw [h1] at z2; cases z2
          exact np j s hj e1 o1 z1
        · exact W'.dj j k s s' b ne e1 o1 e2 o2 z1 z2
    · rcases set_get e with ⟨_, rfl, _⟩ | ⟨hj, e⟩
      · rfl
      · rcases isl j s hj e with rfl | ⟨t, y, rfl, _⟩ | ⟨pin, t, ys, zs, _, rfl, _⟩ <;> rfl
  exact q v _ H' smG Wr (rep_del hp t v x hn rv)
end
section
variable {X : Cx} {Γ Γ1 Γ2 : List Slot} {a b e : Expr} {pos : Pos} {t : Ty}
theorem de_lend (i : Nat) {Γ' : List Slot} {u : Ty} {x : t.den} {xs : List u.den} (h : DE X e (Γ.set i (.fr (.lst u) xs)) t x Γ') (hb : Bw Γ (Γ'.set i .un)) (hi : Γ[i]? = some (.ow false (.lst u xs)) := by rfl) (hn : t.noLst = true := by rfl) : DE X e Γ t x (Γ'.set i (.ow false (.lst u xs))) := ev_lend i h hi hb hn
/-! ### [..] * n -/
theorem do_rep {xs : List t.den} {k : Int} (hk : -(2 ^ 63) ≤ k ∧ k < 2 ^ 63) (hz : Sz (xs.length * k.toNat)) (ha : DO X a Γ (.lst t xs) Γ1) (hb : DE X b Γ1 .int k Γ2) : DO X (.BinOp a .Mult b pos) Γ (.lst t (List.replicate k.toNat xs).flatten) Γ2 := fun F G σ H W Q q =>
  wpe_of (pe_op op_rep pe_wp pe_wp) (ha F G σ H W _ fun p ho G1 H1 s1 W1 hT ok => hb _ G1 σ H1 W1 _ fun w G2 H2 s2 W2 r2 => by
    obtain ⟨vs, rfl, r⟩ := ok
    have W3 := W2.drop hT
    have el := pair_len r
    refine ⟨p, k, vs, rfl, r2, W2.held.1, hk.1, hk.2, by rw [el]; exact hz.le, fun l hl => q l _ G2 _ (s1.trans s2) (W3.new hl) (W3.tn hl) ⟨_, rfl, ?_⟩⟩
    have r' := repL_mono s2 r
    generalize k.toNat = n
    induction n with
    | zero => exact .nil
    | succ n ih => rw [List.replicate_succ, List.replicate_succ, List.flatten_cons, List.flatten_cons]; exact pair_app r' ih)
/-! ### x is None -/
theorem dc_isN {x : Option t.den} {j} {p2 : Pos} (h : DE X a Γ (.opt t) x Γ1) : DC X .Is a (.Constant .none j p2) Γ x.isNone Γ1 := fun F G σ H W Q q =>
  wpc_of (pc_isN pe_wp) (h F G σ H W _ fun v G' H' s W' r => q _ G' H' s W' (by
    cases x with
    | none => have : v = .non := r; subst this; rfl
    | some y => have : v ≠ .non := r.1; show V.bl _ = V.bl _; congr 1; simp [this]))
theorem dc_notN {x : Option t.den} {j} {p2 : Pos} (h : DE X a Γ (.opt t) x Γ1) : DC X .IsNot a (.Constant .none j p2) Γ x.isSome Γ1 := fun F G σ H W Q q =>
  wpc_of (pc_notN pe_wp) (h F G σ H W _ fun v G' H' s W' r => q _ G' H' s W' (by
    cases x with
    | none => have : v = .non := r; subst this; rfl
    | some y => have : v ≠ .non := r.1; show V.bl _ = V.bl _; congr 1; simp [this]))
/-- types whose things are not None -/
def Ty.solid2 : Ty → Bool
  | .non => false | .opt _ => false | _ => true
theorem rep_nn {K : PySem.W.Frag} {G : Hp} {v : V} : ∀ {t : Ty} {x : t.den}, t.solid2 = true → Rep K t G v x → v ≠ .non
  | .int, _, _, h => by intro z; subst z; cases h
  | .bool, _, _, h => by intro z; subst z; cases h
  | .str, _, _, h => by intro z; subst z; cases h
  | .scr, _, _, ⟨a, h, _⟩ => by intro z; subst z; cases h
  | .lst t, _, _, ⟨a, _, h, _⟩ => by intro z; subst z; cases h
  | .tup t, _, _, ⟨a, _, h, _⟩ => by intro z; subst z; cases h
  | .si, .inl i, _, h => by intro z; subst z; cases h
  | .si, .inr i, _, h => by intro z; subst z; cases h
  | .iu t, .inl i, _, h => by intro z; subst z; cases h
  | .iu t, .inr y, _, ⟨a, _, h, _⟩ => by intro z; subst z; cases h
  | .p2 a b, _, _, ⟨p, _, _, h, _⟩ => by intro z; subst z; cases h
  | .p3 a b c, _, _, ⟨p, _, _, _, h, _⟩ => by intro z; subst z; cases h
  | .p4 a b c d, _, _, ⟨p, _, _, _, _, h, _⟩ => by intro z; subst z; cases h
  | .p5 a b c d e, _, _, ⟨p, _, _, _, _, _, h, _⟩ => by intro z; subst z; cases h
theorem de_opt {x : t.den} (h : DE X e Γ t x Γ1) (hn : t.solid2 = true := by rfl) : DE X e Γ (.opt t) (some x) Γ1 := fun F G σ H W Q q =>
  h F G σ H W Q fun v G' H' s W' r => q v G' H' s W' ⟨rep_nn hn r, r⟩
/-- what is known not to be None -/
def unopt {α : Type} (d : α) (x : Option α) : α := x.getD d
theorem ent_some {K : PySem.W.Frag} (i : Nat) {x : Option t.den} (d : t.den) (hs : x.isSome = true) (h : Γ[i]? = some (.fr (.opt t) x) := by rfl) : Ent K Γ (Γ.set i (.fr t (unopt d x))) := fun F G σ H W => by
  obtain ⟨v, h1, h2⟩ := W.sl i _ h
  cases x with
  | none => cases hs
  | some y =>
    have := W.setFr (i := i) (t := t) (x := y) h2.2
    have il : i < Γ.length := (List.getElem?_eq_some_iff.mp h).1
    have es : σ.set i (some v) = σ := by
      apply List.ext_getElem?
      intro j
      by_cases hj : i = j
      · subst hj; rw [List.getElem?_set_self (by rw [W.len]; exact il)]; exact h1.symm
      · rw [List.getElem?_set_ne hj]
    rw [es] at this
    exact ⟨G, Same.refl G, this⟩
end
/-! ### while, its turns not told -/
theorem whileN_le {S : Type} {Pc P : S → Prop} {c : S → Bool} {f : S → S} : ∀ {n m : Nat} {s : S}, OkW Pc P c f n s → OkW Pc P c f m s → whileN c f n s = whileN c f m s
  | 0, 0, _, _, _ => rfl
  | 0, m + 1, s, h, _ => by simp [whileN, h.2]
  | n + 1, 0, s, _, h => by simp [whileN, h.2]
  | n + 1, m + 1, s, h, h' => by
    simp only [whileN]
    cases e : c s with
    | false => rfl
    | true => exact whileN_le (h.2 e).2 (h'.2 e).2
def EndW {S : Type} (c : S → Bool) (f : S → S) (s : S) : Prop := ∃ n, OkW (fun _ => True) (fun _ => True) c f n s
theorem okW_end {S : Type} {Pc P : S → Prop} {c : S → Bool} {f : S → S} : ∀ {n : Nat} {s : S}, OkW Pc P c f n s → OkW (fun _ => True) (fun _ => True) c f n s
  | 0, _, h => ⟨trivial, h.2⟩
  | _ + 1, _, h => ⟨trivial, fun e => ⟨trivial, okW_end (h.2 e).2⟩⟩
open Classical in
noncomputable def whileV {S : Type} (c : S → Bool) (f : S → S) (s : S) : S := if h : EndW c f s then whileN c f (Classical.choose h) s else s
theorem whileV_eq {S : Type} {Pc P : S → Prop} {c : S → Bool} {f : S → S} {n : Nat} {s : S} (h : OkW Pc P c f n s) : whileV c f s = whileN c f n s := by
  have e : EndW c f s := ⟨n, okW_end h⟩
  unfold whileV
  rw [dif_pos e]
  exact whileN_le (Classical.choose_spec e) (okW_end h)
/-- what the test and the body ask, and that it ends -/
def AllW {S : Type} (Pc P : S → Prop) (c : S → Bool) (f : S → S) (s : S) : Prop := ∃ n, OkW Pc P c f n s
section
variable {X : Cx} {ρ S : Type} {R : RI ρ} {tc : Expr} {body : List Stmt} {pos : Pos} {Γ : List Slot} {Pc P : S → Prop}
theorem ds_whileV (Γs : S → List Slot) {s0 : S} {c : S → Bool} {f : S → S} (h0 : Ent X.K Γ (Γs s0)) (hP : AllW Pc P c f s0) (hc : ∀ s, Pc s → DT X tc (Γs s) (c s) (Γs s))
    (hb : ∀ s, P s → ∃ o, DSs X R body (Γs s) o ∧ Turns X.K R Γs o (.go (f s))) (hp : PassesOwn (model X.prog X.w) X.A X.env X.xe) : DS X R (.While tc body [] pos) Γ (.nx (Γs (whileV c f s0))) := by
  obtain ⟨n, hn⟩ := hP
  rw [whileV_eq hn]
  exact ds_while Γs h0 hn hc (fun s h _ => hb s h) hp
end
/-! ### t.index(x) of a tuple -/
section
variable {X : Cx} {Γ Γ1 Γ2 : List Slot} {a b : Expr} {pos apos : Pos}
def tTI (K : PySem.W.Frag) (to : TE) (tb : TA) : TE := fun σ H Q => to σ H fun x H1 => ∃ (p : Addr) (o : Obj) (ys : List V), x = .ref p ∧ H1 p = some (.frz o (.tup ys)) ∧ o.dict = none ∧
  tb σ H1 fun us H2 => ∃ (zs : List Str) (z : Str) (j : Nat), us = [.str z] ∧ SqT K H2 p (zs.map V.str) ∧ zs[j]? = some z ∧ (∀ m, m < j → zs[m]? ≠ some z) ∧ Q (.int (j : Nat)) H2
theorem pe_tindex {to : TE} {tb : TA} (ho : PE X a to) (ha : PA X [b] tb) (hbase : attributeBase a "index" X.env (eval a X.env) = eval a X.env)
    (hfew : ((backTo pos (starEach [b] X.env)).all (fun x => !x.1) && (backToKw pos (keywordEach [] X.env)).all (fun x => x.1.isSome) && decide (([b] : List Expr).length + ([] : List Keyword).length + (if ([] : List Keyword).isEmpty then 0 else 1) < 30)) = true)
    (hline : (apos.endLine == pos.line) = true) (hs : starEach [b] X.env = (false, eval b X.env) :: starEach [] X.env) (hpl : (backTo pos (starEach [] X.env)).any (·.1) = false) :
    PE X (.Call (.Attribute a "index" apos) [b] [] pos) (tTI X.K to tb) := ⟨fun pins s σ H Q I h => by
  refine wpAny_Call_method_late hbase hfew hline rfl (thn (ho.run pins s σ H _ I h) fun v s1 ⟨x, H1, I1, r1, p, o, ys, e, hp, hd, q1⟩ => ?_)
  subst e
  cases r1
  have ok := I1.hok p _ hp
  obtain ⟨its, _, pl, _⟩ := I1.tuple (.inl (.inr ⟨o, hp⟩))
  refine ⟨"tuple", "tuple.index", PySem.F.plainAttrs_tuple, PySem.F.slot_tuple_index, PySem.F.type_tuple_index, pl.typeIs, fun a e => ?_, ?_⟩
  · cases e; exact ⟨o, ok.1, hd⟩
  · have hA := ha.run pos pins s1 σ H1 _ I1 q1
    rw [hs] at hA ⊢
    refine Calls.callWith_builtin (by show (false || (backTo pos (starEach [] X.env)).any (·.1)) = false; rw [hpl]; rfl) (Calls.evalArgs_plain ?_)
    exact thn hA fun us s2 ⟨vs, H2, I2, r2, zs, z, j, e, g1, g2, g3, q2⟩ => mt_tup_index pins s2 σ H2 (.ref p) vs (.ref p) us Q I2 rfl r2 ⟨p, zs, z, j, rfl, e, g1, g2, g3, q2⟩⟩
/-- the first place of x -/
def idx {α : Type} [DecidableEq α] (xs : List α) (x : α) : Nat := xs.findIdx fun y => decide (y = x)
theorem idx_at {xs : List (List Nat)} {x : List Nat} (h : x ∈ xs) : xs[idx xs x]? = some x ∧ ∀ m, m < idx xs x → xs[m]? ≠ some x := by
  have hl : idx xs x < xs.length := by
    unfold idx
    rw [List.findIdx_lt_length]
    exact ⟨x, h, by simp⟩
  refine ⟨?_, fun m hm e => ?_⟩
  · rw [List.getElem?_eq_getElem hl]
    have := List.findIdx_getElem (p := fun y => decide (y = x)) (xs := xs) (w := hl)
    exact congrArg some (of_decide_eq_true this)
  · have := List.not_of_lt_findIdx (p := fun y => decide (y = x)) (xs := xs) hm
    obtain ⟨h1, h2⟩ := List.getElem?_eq_some_iff.mp e
    simp [h2] at this
theorem de_tindex {xs : List (List Nat)} {x : List Nat} (hx : x ∈ xs) (ha : DE X a Γ (.tup .str) xs Γ1) (hb : DE X b Γ1 .str x Γ2) (hbase : attributeBase a "index" X.env (eval a X.env) = eval a X.env := by rfl)
    (hfew : ((backTo pos (starEach [b] X.env)).all (fun x => !x.1) && (backToKw pos (keywordEach [] X.env)).all (fun x => x.1.isSome) && decide (([b] : List Expr).length + ([] : List Keyword).length + (if ([] : List Keyword).isEmpty then 0 else 1) < 30)) = true := by rfl)
    (hline : (apos.endLine == pos.line) = true := by rfl) (hs : starEach [b] X.env = (false, eval b X.env) :: starEach [] X.env := by rfl) (hpl : (backTo pos (starEach [] X.env)).any (·.1) = false := by rfl) : DE X (.Call (.Attribute a "index" apos) [b] [] pos) Γ .int ((idx xs x : Nat) : Int) Γ2 := fun F G σ H W Q q =>
  wpe_of (pe_tindex pe_wp pa_wp hbase hfew hline hs hpl) (ha F G σ H W _ fun v G1 H1 s1 W1 r1 => by
    obtain ⟨p, vs, rfl, ⟨o, e, hd⟩, h2⟩ := r1
    refine ⟨p, o, vs, rfl, W1.gh p _ e, hd, wpa_one hs (hb F G1 σ H1 W1 _ fun w G2 H2 s2 W2 r2 => ?_)⟩
    obtain ⟨i1, i2⟩ := idx_at hx
    refine ⟨xs.map fun y => (⟨y.toArray⟩ : Str), ⟨x.toArray⟩, idx xs x, by rw [show w = vS x from r2]; rfl, ?_, ?_, fun m hm z => ?_, q _ G2 H2 (s1.trans s2) W2 rfl⟩
    · rw [← repL_str h2]; exact .inl (.inr ⟨o, W2.gh p _ (s2 p _ e)⟩)
    · rw [List.getElem?_map, i1]; rfl
    · rw [List.getElem?_map] at z
      cases e3 : xs[m]? with
      | none => rw [e3] at z; cases z
      | some y =>
        rw [e3] at z
        have z' := Option.some.inj z
        have : y = x := by
          have := congrArg Str.cps z'
          exact List.toArray_inj this
        subst this
        exact i2 m hm e3)
end
end Dn

set_option Elab.async false
set_option linter.all false
set_option maxRecDepth 100000
set_option maxHeartbeats 1000000
/-! Dn16: reading what may be None as what is not; min of a list; zip. -/
namespace Dn
open PySem PySem.Spec PyProof.Rows L2 TL
section
variable {X : Cx} {Γ Γ1 Γ2 : List Slot} {a b e tg : Expr} {pos p : Pos} {t u : Ty} {g : TG} {tgs : List Nat}
theorem de_unopt {x : Option t.den} (d : t.den) (hs : x.isSome = true) (h : DE X e Γ (.opt t) x Γ1) : DE X e Γ t (unopt d x) Γ1 := fun F G σ H W Q q =>
  h F G σ H W Q fun v G' H' s W' r => by
    cases x with
    | none => cases hs
    | some y => exact q v G' H' s W' r.2
/-- the least of a list -/
def minL (xs : List Int) : Int := xs.foldl (fun a b => if b < a then b else a) (xs.headD 0)
theorem minL_fold : ∀ (xs : List Int) (z : Int), (xs.foldl (fun a b => if b < a then b else a) z = z ∨ xs.foldl (fun a b => if b < a then b else a) z ∈ xs) ∧ xs.foldl (fun a b => if b < a then b else a) z ≤ z ∧ ∀ y ∈ xs, xs.foldl (fun a b => if b < a then b else a) z ≤ y
  | [], z => ⟨.inl rfl, Int.le_refl _, fun _ h => by cases h⟩
  | x :: xs, z => by
    obtain ⟨h1, h2, h3⟩ := minL_fold xs (if x < z then x else z)
    rw [List.foldl_cons]
    refine ⟨?_, ?_, fun y hy => ?_⟩
    · rcases h1 with h1 | h1
      · rw [h1]; by_cases c : x < z
        · rw [if_pos c]; exact .inr (List.mem_cons_self ..)
        · rw [if_neg c]; exact .inl rfl
      · exact .inr (List.mem_cons_of_mem _ h1)
    · refine Int.le_trans h2 ?_
      split <;> omega
    · rcases List.mem_cons.mp hy with rfl | hy
      · refine Int.le_trans h2 ?_
        split <;> omega
      · exact h3 y hy
theorem minL_mem {xs : List Int} (h : 0 < xs.length) : minL xs ∈ xs := by
  cases xs with
  | nil => cases h
  | cons x xs =>
    rcases (minL_fold (x :: xs) x).1 with q | q
    · show (x :: xs).foldl _ x ∈ _; rw [q]; exact List.mem_cons_self ..
    · exact q
theorem minL_le {xs : List Int} {y : Int} (h : y ∈ xs) : minL xs ≤ y := by
  cases xs with
  | nil => cases h
  | cons x xs => exact (minL_fold (x :: xs) x).2.2 y h
theorem de_minL {xs : List Int} (hm : X.mg "min" = none) (hne : 0 < xs.length) (h : DL X e Γ .int xs Γ1) (hc : X.calm = true := by rfl) (hg : Gl X "min" := by rfl) (hs : starEach [e] X.env = (false, eval e X.env) :: starEach [] X.env := by rfl) (hpl : (backTo pos (starEach [] X.env)).any (·.1) = false := by rfl) : DE X (.Call (.Name "min" p) [e] [] pos) Γ .int (minL xs) Γ1 := fun F G σ H W Q q =>
  wpe_of (pe_callB (cr_min hc) hg hm (by decide +kernel) pa_wp (by decide) (by decide) hs hpl) (wpa_one hs (h F G σ H W _ fun a vs G1 H1 s1 W1 h1 h2 => ⟨a, xs, rfl, by rw [← repL_int h2]; exact h1, hne, fun m h3 h4 => q _ G1 H1 s1 W1 (by
    have e1 := h4 _ (minL_mem hne)
    have e2 := minL_le h3
    have : m = minL xs := by omega
    rw [this]; rfl)⟩))
/-! ### x is True -/
theorem dc_isB {c d : Bool} (ha : DE X a Γ .bool c Γ1) (hb : DE X b Γ1 .bool d Γ2) : DC X .Is a b Γ (decide (c = d)) Γ2 := fun F G σ H W Q q =>
  wpc_of (pc_op op_is_bl pe_wp pe_wp) (ha F G σ H W _ fun v G1 H1 s1 W1 r1 => hb F G1 σ H1 W1 _ fun w G2 H2 s2 W2 r2 => ⟨c, d, r1, r2, q _ G2 H2 (s1.trans s2) W2 rfl⟩)
theorem dc_notB {c d : Bool} (ha : DE X a Γ .bool c Γ1) (hb : DE X b Γ1 .bool d Γ2) : DC X .IsNot a b Γ (!decide (c = d)) Γ2 := fun F G σ H W Q q =>
  wpc_of (pc_op op_isnot_bl pe_wp pe_wp) (ha F G σ H W _ fun v G1 H1 s1 W1 r1 => hb F G1 σ H1 W1 _ fun w G2 H2 s2 W2 r2 => ⟨c, d, r1, r2, q _ G2 H2 (s1.trans s2) W2 rfl⟩)
/-! ### zip -/
theorem zip_get {α β : Type} {xs : List α} {ys : List β} {i : Nat} {y : α × β} (h : (List.zip xs ys)[i]? = some y) : xs[i]? = some y.1 ∧ ys[i]? = some y.2 := by
  rw [List.zip, List.getElem?_zipWith] at h
  cases e1 : xs[i]? with
  | none => rw [e1] at h; cases h
  | some x =>
    cases e2 : ys[i]? with
    | none => rw [e1, e2] at h; cases h
    | some z => rw [e1, e2] at h; cases h; exact ⟨rfl, rfl⟩
theorem zip_len {α β : Type} {xs : List α} {ys : List β} : (List.zip xs ys).length = min xs.length ys.length := by simp
theorem di_zipL {elts : List Expr} {kk : Nat} {tpos : Pos} {xs : List t.den} {ys : List u.den} {B : t.den × u.den → List Slot → List Slot} (hm : X.mg "zip" = none) (ha : DE X a Γ (.lst t) xs Γ1) (hb : DE X b Γ1 (.lst u) ys Γ2) (hg : EvG X.K g (.p2 t u) B tgs) (hgl : Gl X "zip" := by rfl)
    (hs : starEach [a, b] X.env = (false, eval a X.env) :: starEach [b] X.env := by rfl) (hs2 : starEach [b] X.env = (false, eval b X.env) :: starEach [] X.env := by rfl) (hpl : (backTo pos (starEach [b] X.env)).any (·.1) = false := by rfl) :
    DI X (.Tuple elts kk tpos) (.Call (.Name "zip" p) [a, b] [] pos) g Γ (List.zip xs ys) B tgs Γ2 := fun F G σ H W R q =>
  wpi_of (RZ.pi_zipA hgl hm (pa_cons pe_wp (pa_cons pe_wp pa_nil hs2) hs) hs hpl) (ha F G σ H W _ fun v G1 H1 s1 W1 r1 => hb F G1 σ H1 W1 _ fun w G2 H2 s2 W2 r2 => by
    obtain ⟨p1, vs, rfl, h1, h2⟩ := r1
    obtain ⟨p2, ws, rfl, h3, h4⟩ := r2
    have h2 := repL_mono s2 h2
    have h1 := rd_mono s2 h1
    have e1 := pair_len h2
    have e2 := pair_len h4
    have ql : ∀ {H' : Hp}, Same G2 H' → SqL X.K H' p1 vs ∧ SqL X.K H' p2 ws := fun s => ⟨.inl (rd_mono s h1), .inl (rd_mono s h3)⟩
    refine ⟨p1, p2, vs, ws, rfl, .inl ⟨(ql W2.gh).1, (ql W2.gh).2, q _ G2 H2 (s1.trans s2) W2 ⟨fun i G3 H3 s3 s4 hi => ?_, fun G3 H3 s3 s4 => ⟨vs, ws, (ql (s3.trans s4)).1, (ql (s3.trans s4)).2, ?_⟩, fun F i y G3 σ3 H3 Γ3 v H4 Q s3 W3 hy y' k => ?_⟩⟩⟩
    · rw [zip_len] at hi
      exact ⟨vs, ws, vs[i]'(by omega), ws[i]'(by omega), (ql (s3.trans s4)).1, (ql (s3.trans s4)).2, List.getElem?_eq_getElem (by omega), List.getElem?_eq_getElem (by omega)⟩
    · rw [zip_len]; omega
    · obtain ⟨T, x1, x2, rfl, nT, rfl, f1, f2⟩ := y'
      have f1 := f1 vs (ql (s3.trans W3.gh)).1
      have f2 := f2 ws (ql (s3.trans W3.gh)).2
      obtain ⟨g1, g2⟩ := zip_get hy
      obtain ⟨v1, e4, e5⟩ := pair_get h2 g1
      rw [f1] at e4; cases e4
      obtain ⟨v2, e6, e7⟩ := pair_get h4 g2
      rw [f2] at e6; cases e6
      have sm := same_upd (o := .tup [x1, x2]) (W3.gn nT)
      exact hg F _ σ3 _ Γ3 (.ref T) y (W3.newG nT) ⟨T, x1, x2, rfl, upd_same, rep_mono (s3.trans sm) t x1 y.1 e5, rep_mono (s3.trans sm) u x2 y.2 e7⟩ Q fun σ' a' W4 => k _ σ' _ sm a' W4)
theorem di_zipU {elts : List Expr} {kk : Nat} {tpos : Pos} {xs : List t.den} {ys : List u.den} {B : t.den × u.den → List Slot → List Slot} (hm : X.mg "zip" = none) (ha : DE X a Γ (.tup t) xs Γ1) (hb : DE X b Γ1 (.tup u) ys Γ2) (hg : EvG X.K g (.p2 t u) B tgs) (hgl : Gl X "zip" := by rfl)
    (hs : starEach [a, b] X.env = (false, eval a X.env) :: starEach [b] X.env := by rfl) (hs2 : starEach [b] X.env = (false, eval b X.env) :: starEach [] X.env := by rfl) (hpl : (backTo pos (starEach [b] X.env)).any (·.1) = false := by rfl) :
    DI X (.Tuple elts kk tpos) (.Call (.Name "zip" p) [a, b] [] pos) g Γ (List.zip xs ys) B tgs Γ2 := fun F G σ H W R q =>
  wpi_of (RZ.pi_zipA hgl hm (pa_cons pe_wp (pa_cons pe_wp pa_nil hs2) hs) hs hpl) (ha F G σ H W _ fun v G1 H1 s1 W1 r1 => hb F G1 σ H1 W1 _ fun w G2 H2 s2 W2 r2 => by
    obtain ⟨p1, vs, rfl, h1, h2⟩ := r1
    obtain ⟨p2, ws, rfl, h3, h4⟩ := r2
    have h2 := repL_mono s2 h2
    have h1 := h1.mono s2
    have e1 := pair_len h2
    have e2 := pair_len h4
    have ql : ∀ {H' : Hp}, Same G2 H' → SqT X.K H' p1 vs ∧ SqT X.K H' p2 ws := fun s => ⟨(h1.mono s).t, (h3.mono s).t⟩
    refine ⟨p1, p2, vs, ws, rfl, .inr ⟨(ql W2.gh).1, (ql W2.gh).2, q _ G2 H2 (s1.trans s2) W2 ⟨fun i G3 H3 s3 s4 hi => ?_, fun G3 H3 s3 s4 => ⟨vs, ws, (ql (s3.trans s4)).1, (ql (s3.trans s4)).2, ?_⟩, fun F i y G3 σ3 H3 Γ3 v H4 Q s3 W3 hy y' k => ?_⟩⟩⟩
    · rw [zip_len] at hi
      exact ⟨vs, ws, vs[i]'(by omega), ws[i]'(by omega), (ql (s3.trans s4)).1, (ql (s3.trans s4)).2, List.getElem?_eq_getElem (by omega), List.getElem?_eq_getElem (by omega)⟩
    · rw [zip_len]; omega
    · obtain ⟨T, x1, x2, rfl, nT, rfl, f1, f2⟩ := y'
      have f1 := f1 vs (ql (s3.trans W3.gh)).1
      have f2 := f2 ws (ql (s3.trans W3.gh)).2
      obtain ⟨g1, g2⟩ := zip_get hy
      obtain ⟨v1, e4, e5⟩ := pair_get h2 g1
      rw [f1] at e4; cases e4
      obtain ⟨v2, e6, e7⟩ := pair_get h4 g2
      rw [f2] at e6; cases e6
      have sm := same_upd (o := .tup [x1, x2]) (W3.gn nT)
      exact hg F _ σ3 _ Γ3 (.ref T) y (W3.newG nT) ⟨T, x1, x2, rfl, upd_same, rep_mono (s3.trans sm) t x1 y.1 e5, rep_mono (s3.trans sm) u x2 y.2 e7⟩ Q fun σ' a' W4 => k _ σ' _ sm a' W4)
end
end Dn

set_option Elab.async false
set_option linter.all false
set_option maxRecDepth 100000
set_option maxHeartbeats 1000000
/-! Dn17: the head of a law, and repr of what is made, where no repr is under way. -/
namespace Dn
open PySem PySem.Spec PyProof.Rows L2 TL
/-- at the script, nothing else tracked -/
theorem head_G {P : Program} {w : World} {K : PySem.W.Frag} {mg mb : Str → Option Value} {k : Nat} {fa a : Addr} {fd : FuncData} {x : Str} {sp : Sp} {s : Shared} {vs : List Value} {ns : List Int}
    (inK : K.In s.heap) (globals : s.heap.Ns mainGlobals mg) (blt : s.heap.Ns builtinsNs mb) (boot : ∀ x : Str, x ≠ "__name__" → mb x = bootBuiltins x) (nolim : s.heap.NoLimit) (gens : s.gens = #[])
    (obj : s.heap.get? a = some { cls := .type "list", data := .seq vs.toArray }) (hin : IntsAre vs ns) (few : ns.length ≤ sizeLine) (room : RoomG k callerA)
    (F : ∀ base : Heap, K.In base → base.Ns mainGlobals mg → FnG P w K mg base k fa fd [x] sp) (binds : ∀ (s : Shared) (u : Value), BindsTo s fd ⟨[u], []⟩ [(x, u)])
    (hsp : ∀ H : Hp, Only H → SqL K H a (ns.map V.int) → sp [.ref a] H (fun v _ => v = .bl true) fun _ _ _ => False) :
    codeAny (model P w) callerA (.call (.ref fa) ⟨[.ref a], []⟩) (fun r s' => r = .ok (.ret (.bool true)) ∧ OldK s.heap s'.heap ∧ s'.os = s.os ∧ AllBare s'.gens) s := by
  have rel := vals_ints hin
  have key : ∃ H : Hp, (∀ b u, H b = some u → b = a ∧ K.lookup a = none ∧ u = .frz { cls := .type "list", data := .seq vs.toArray } (.lst (ns.map V.int))) ∧ SqL K H a (ns.map V.int) := by
    cases lk : K.lookup a with
    | some o =>
      have e := inK a o lk
      rw [obj] at e
      cases e
      exact ⟨fun _ => none, fun b u z => (by cases z), .inr ⟨_, vs.toArray, _, lk, rfl, rfl, rfl, by rw [List.size_toArray, hin.length]; exact few, by simpa using rel⟩⟩
    | none =>
      refine ⟨fun b => if b = a then some (.frz { cls := .type "list", data := .seq vs.toArray } (.lst (ns.map V.int))) else none, fun b u z => ?_, .inl (.inr ⟨{ cls := .type "list", data := .seq vs.toArray }, if_pos rfl⟩)⟩
      by_cases c : b = a
      · have z : (if b = a then some (HO.frz { cls := .type "list", data := .seq vs.toArray } (.lst (ns.map V.int))) else none) = some u := z
        rw [if_pos c] at z
        exact ⟨c, rfl, (Option.some.inj z).symm⟩
      · have z : (if b = a then some (HO.frz { cls := .type "list", data := .seq vs.toArray } (.lst (ns.map V.int))) else none) = some u := z
        rw [if_neg c] at z; cases z
  obtain ⟨H, only, sq⟩ := key
  have nsOk : ∀ {b : Addr} {m : Str → Option Value}, s.heap.Ns b m → (hidT s.heap H).Ns b m := fun {b m} ⟨o, es, ep, e, d, r⟩ => ⟨o, es, ep, hidT_get e (by
    cases z : H b with
    | none => rfl
    | some u =>
      obtain ⟨rfl, _⟩ := only b u z
      rw [obj] at e; cases e
      have d' : Data.seq vs.toArray _ = Data.dict es ep := d
      cases d'), d, r⟩
  have kIn : K.In (hidT s.heap H) := fun b o e => hidT_get (inK b o e) (by
    cases z : H b with
    | none => rfl
    | some u =>
      obtain ⟨rfl, n, _⟩ := only b u z
      rw [n] at e; cases e)
  have hok : HOk P w H s.heap := fun b u z => by
    obtain ⟨rfl, _, rfl⟩ := only b u z
    exact ⟨obj, by rw [List.length_map]; exact few, vs, _, rel, obj⟩
  have e0 : Env0 P w K mg (hidT s.heap H) callerA [] s H :=
    ⟨rfl, ⟨kIn, nsOk globals, ⟨mb, nsOk blt, boot⟩, let ⟨mc, h1, h2⟩ := nolim; ⟨mc, nsOk h1, h2⟩⟩, fun b o e => of_hidT e, Nat.le_of_eq (hidT_size _ _), trivial, fun b hb => absurd (show b ∈ ([] : List Addr) from hb) (by simp), hok, .of_eq gens⟩
  refine codeAny_mono ((F _ kIn (nsOk globals)).run callerA [] s H ⟨[.ref a], []⟩ [.ref a] [.ref a] _ _ room e0 (binds s (.ref a)) (.cons rfl .nil) (hsp H (fun b => by
    cases z : H b with
    | none => exact .inl rfl
    | some u => obtain ⟨_, _, rfl⟩ := only b u z; exact .inr ⟨_, _, rfl⟩) sq)) fun r s' out => ?_
  cases r with
  | error e => exact False.elim out
  | ok fl =>
    cases fl with
    | next => exact False.elim out
    | brk => exact False.elim out
    | cont => exact False.elim out
    | ret u =>
      obtain ⟨v, H', os, bare, un, hok', rv, q⟩ := out
      obtain rfl : v = V.bl true := q
      obtain rfl : u = Value.bool true := rv
      refine ⟨rfl, OldK.of_keep fun b o e => ?_, os, bare⟩
      cases z : H b with
      | none => exact un.keep b o e z (by intro z'; exact absurd (show b ∈ ([] : List Addr) from z') (by simp)) (by simp)
      | some u =>
        obtain ⟨_, _, rfl⟩ := only b u z
        obtain ⟨e1, _⟩ := hok b _ z
        obtain ⟨e2, _⟩ := hok' b _ (un.frzs b _ _ z)
        rw [e] at e1; cases e1
        exact e2
theorem walk_ofG {l : PySem.W.OpenLaw} {n k : Nat} {q : Program} {loose : List Str} {XP : (Str → Option Value) → Heap → Prop} {YP : World → Heap → Prop} {d : DefRec} {K : Params → PySem.W.Frag} {sp : World → Sp} {x : Str}
    (hn : l.most = some n) (hn2 : n ≤ sizeLine) (hdf : d.params.defaults = []) (hr : RoomG k callerA)
    (hY : ∀ (w : World) (h : Heap), YP w h → (K w.params).In h)
    (F : ∀ (w : World) (mg : Str → Option Value) (fa : Addr) (h : Heap), (K w.params).In h → h.Ns mainGlobals mg → mg d.name = some (.ref fa) →
      ∃ fd : FuncData, (∀ (s : Shared) (u : Value), BindsTo s fd ⟨[u], []⟩ [(x, u)]) ∧
        ∀ base : Heap, (K w.params).In base → base.Ns mainGlobals mg → FnG l.prog w (K w.params) mg base k fa fd [x] (sp w))
    (hsp : ∀ (w : World) (H : Hp) (a : Addr) (ns : List Int), ns.length ≤ n → (∀ z ∈ ns, Builtin.Int.intBits z ≤ 1048576) → Only H → SqL (K w.params) H a (ns.map V.int) → sp w [.ref a] H (fun v _ => v = .bl true) fun _ _ _ => False) :
    PySem.W.WalkO q loose XP YP l.row.toRowW d [] (fun f vs => PySem.call f vs) := by
  refine Att.attach_callB hn hdf fun w s₀ s₁ mg mb fa o pm cd doc a vs ns G Y ho hd hcd hmg hobj hints hlen hbits hg => ?_
  obtain ⟨fd, hb, hF⟩ := F w mg fa _ (hY w _ Y) G.T.g hmg
  exact head_G (hY w _ Y) G.T.g G.T.b G.T.builtins G.T.nolimit hg hobj hints (Nat.le_trans hlen hn2) hr hF hb fun H hO hS => hsp w H a ns hlen hbits hO hS
/-! ### repr -/
def Ty.disp : Ty → Bool
  | .lst _ => true | .tup _ => true | .p2 _ _ => true | .p3 _ _ _ => true | .p4 _ _ _ _ => true | .p5 _ _ _ _ _ => true | _ => false
theorem noDict_all {α : Type} {f : α → PyData} (h : ∀ x, (f x).hasDict = false) : ∀ xs : List α, PyData.hasDictAll (xs.map f) = false
  | [] => rfl
  | x :: xs => by
    show (PyData.hasDict (f x) || PyData.hasDictAll (xs.map f)) = false
    rw [h x, noDict_all h xs]; rfl
theorem noDict : ∀ (t : Ty) (x : t.den), (toPy t x).hasDict = false
  | .int, _ => rfl
  | .bool, _ => rfl
  | .str, _ => rfl
  | .non, _ => rfl
  | .scr, x => noDict_all (f := fun z => PyData.int z) (fun _ => rfl) x
  | .opt t, none => rfl
  | .opt t, some y => noDict t y
  | .lst t, x => noDict_all (noDict t) x
  | .tup t, x => noDict_all (noDict t) x
  | .si, .inl i => rfl
  | .si, .inr i => rfl
  | .iu t, .inl i => rfl
  | .iu t, .inr x => noDict_all (noDict t) x
  | .p2 a b, x => by simp only [toPy, PyData.hasDict, PyData.hasDictAll, noDict a, noDict b, Bool.or_false]
  | .p3 a b c, x => by simp only [toPy, PyData.hasDict, PyData.hasDictAll, noDict a, noDict b, noDict c, Bool.or_false]
  | .p4 a b c d, x => by simp only [toPy, PyData.hasDict, PyData.hasDictAll, noDict a, noDict b, noDict c, noDict d, Bool.or_false]
  | .p5 a b c d e, x => by simp only [toPy, PyData.hasDict, PyData.hasDictAll, noDict a, noDict b, noDict c, noDict d, noDict e, Bool.or_false]
/-- what repr shows -/
@[irreducible] def reprL (t : Ty) (x : t.den) : List Nat := (toPy t x).shown.cps.toList
def ReprOk (t : Ty) (x : t.den) : Prop := (toPy t x).showable = true ∧ (toPy t x).shown.length ≤ sizeLine
section
variable {X : Cx} {Γ Γ1 : List Slot} {e : Expr} {pos p : Pos} {t : Ty} {x : t.den}
theorem ref_of {h : Heap} {u : Value} {t : Ty} {x : t.den} {as : List Addr} (hd : t.disp = true) (r : Reads h u (toPy t x) as) : ∃ a, u = .ref a := by
  cases t with
  | lst t => revert r; simp only [toPy]; intro r; cases r; exact ⟨_, rfl⟩
  | tup t => revert r; simp only [toPy]; intro r; cases r; exact ⟨_, rfl⟩
  | p2 a b => revert r; simp only [toPy]; intro r; cases r; exact ⟨_, rfl⟩
  | p3 a b c => revert r; simp only [toPy]; intro r; cases r; exact ⟨_, rfl⟩
  | p4 a b c d => revert r; simp only [toPy]; intro r; cases r; exact ⟨_, rfl⟩
  | p5 a b c d e => revert r; simp only [toPy]; intro r; cases r; exact ⟨_, rfl⟩
  | _ => cases hd
open PySem.W in
def rReprD (K : PySem.W.Frag) (t : Ty) : List V → Hp → VK → Prop := fun vs H Q => ∃ (v : V) (x : t.den), vs = [v] ∧ Dp K H v (toPy t x) ∧ ReprOk t x ∧ Q (.str (toPy t x).shown) H
open PySem.W in
theorem cr_reprD {k : Nat} (hr : RoomG k X.A) (hd : t.disp = true) (hp : t.dep ≤ 60) : CallR X (.builtin "repr") (rReprD X.K t) := by
  intro pins s σ H vs us Q I r h
  obtain ⟨v, x, rfl, hv, ok, q⟩ := h
  obtain ⟨u, rfl, ru⟩ : ∃ u, us = [u] ∧ RelV v u := by
    cases r with
    | cons r r' => cases r'; exact ⟨_, rfl, r⟩
  obtain ⟨as, rd⟩ := Dp.reads I (toPy t x) v u hv ru
  obtain ⟨a, rfl⟩ := ref_of hd rd
  exact repr_of_reads' rd ok.1 (fun z => by rw [noDict] at z; cases z) hr.g (by
    have h1 := hr.units
    have h2 := dep_le t x
    omega) (fun _ _ e => e) (fun h' u tk hk => ⟨.str _, H, I.kept (t' := tk) hk, ⟨_, rfl⟩, q⟩) ok.2
theorem de_repr {k : Nat} (hr : RoomG k X.A) (hm : X.mg "repr" = none) (hz : ReprOk t x) (h : DE X e Γ t x Γ1) (hd : t.disp = true := by rfl) (hp : t.dep ≤ 60 := by decide) (hg : Gl X "repr" := by rfl) (hs : starEach [e] X.env = (false, eval e X.env) :: starEach [] X.env := by rfl) (hpl : (backTo pos (starEach [] X.env)).any (·.1) = false := by rfl) : DE X (.Call (.Name "repr" p) [e] [] pos) Γ .str (reprL t x) Γ1 := fun F G σ H W Q q =>
  wpe_of (pe_callB (cr_reprD hr hd hp) hg hm (by decide +kernel) pa_wp (by decide) (by decide) hs hpl) (wpa_one hs (h F G σ H W _ fun v G1 H1 s1 W1 r1 => ⟨v, x, rfl, rep_dp W1.gh t v x r1, hz, q _ G1 H1 s1 W1 (by unfold reprL; rfl)⟩))
end
end Dn

set_option Elab.async false
set_option linter.all false
set_option maxRecDepth 100000
set_option maxHeartbeats 1000000
/-! Dn18: owned dicts with int keys. -/
namespace Dn
open PySem PySem.Spec PyProof.Rows L2 TL
def dget {α : Type} (kvs : List (Int × α)) (k : Int) : Option α := (kvs.find? fun p => decide (p.1 = k)).map (·.2)
def dput {α : Type} (kvs : List (Int × α)) (k : Int) (y : α) : List (Int × α) :=
  if (kvs.any fun p => decide (p.1 = k)) = true then kvs.map (fun p => if p.1 = k then (p.1, y) else p) else kvs ++ [(k, y)]
abbrev RepD (K : PySem.W.Frag) (t : Ty) (G : Hp) (ws : List (Key × V)) (kvs : List (Int × t.den)) : Prop := Paired (fun (w : Key × V) (y : Int × t.den) => w.1 = Sum.inl y.1 ∧ Rep K t G w.2 y.2) ws kvs
section
variable {K : PySem.W.Frag} {G : Hp} {t : Ty}
theorem inl_dec {a b : Int} : decide ((Sum.inl a : Key) = Sum.inl b) = decide (a = b) := by
  by_cases c : a = b
  · subst c; simp
  · rw [decide_eq_false c, decide_eq_false fun e => c (Sum.inl.inj e)]
theorem repD_get {ws : List (Key × V)} {kvs : List (Int × t.den)} {k : Int} (r : RepD K t G ws kvs) : (dget kvs k = none → valV ws (Sum.inl k) = none) ∧ ∀ y, dget kvs k = some y → ∃ v, valV ws (Sum.inl k) = some v ∧ Rep K t G v y := by
  induction r with
  | nil => exact ⟨fun _ => rfl, fun y h => (by cases h)⟩
  | @cons w y ws kvs h _ ih =>
    obtain ⟨h1, h2⟩ := h
    unfold dget valV at *
    rw [List.find?_cons, List.find?_cons, h1, inl_dec]
    cases c : decide (y.1 = k) with
    | true => exact ⟨fun h => (by cases h), fun z h => ⟨_, rfl, (by cases h; exact h2)⟩⟩
    | false => exact ih
theorem repD_any {ws : List (Key × V)} {kvs : List (Int × t.den)} {k : Int} (r : RepD K t G ws kvs) : (ws.any fun p => decide (p.1 = (Sum.inl k : Key))) = kvs.any fun p => decide (p.1 = k) := by
  induction r with
  | nil => rfl
  | @cons w y ws kvs h _ ih => rw [List.any_cons, List.any_cons, ih, h.1, inl_dec]
theorem repD_len {ws : List (Key × V)} {kvs : List (Int × t.den)} (r : RepD K t G ws kvs) : ws.length = kvs.length := by
  induction r with
  | nil => rfl
  | cons _ _ ih => rw [List.length_cons, List.length_cons, ih]
theorem repD_map {ws : List (Key × V)} {kvs : List (Int × t.den)} {k : Int} {v : V} {y : t.den} (r : RepD K t G ws kvs) (rv : Rep K t G v y) : RepD K t G (ws.map fun kv => if kv.1 = Sum.inl k then (kv.1, v) else kv) (kvs.map fun p => if p.1 = k then (p.1, y) else p) := by
  induction r with
  | nil => exact .nil
  | @cons w z ws kvs h _ ih =>
    rw [List.map_cons, List.map_cons]
    refine .cons ?_ ih
    by_cases c : z.1 = k
    · rw [if_pos c, if_pos (by rw [h.1, c])]; exact ⟨h.1, rv⟩
    · rw [if_neg c, if_neg fun e => c (by rw [h.1] at e; exact Sum.inl.inj e)]; exact h
theorem repD_app {ws : List (Key × V)} {kvs : List (Int × t.den)} {k : Int} {v : V} {y : t.den} (r : RepD K t G ws kvs) (rv : Rep K t G v y) : RepD K t G (ws ++ [(Sum.inl k, v)]) (kvs ++ [(k, y)]) := by
  induction r with
  | nil => exact .cons ⟨rfl, rv⟩ .nil
  | cons h _ ih => exact .cons h ih
theorem repD_put {ws : List (Key × V)} {kvs : List (Int × t.den)} {k : Int} {v : V} {y : t.den} (r : RepD K t G ws kvs) (rv : Rep K t G v y) : RepD K t G (putK ws (Sum.inl k) v) (dput kvs k y) := by
  unfold putK dput
  rw [repD_any r]
  split
  · exact repD_map r rv
  · exact repD_app r rv
end
section
variable {K : PySem.W.Frag} {F : Fx} {G H : Hp} {σ : L2.St} {Γ : List Slot} {i : Nat} {pin : Bool} {t : Ty} {kvs kvs' : List (Int × t.den)}
theorem Wd.ownedD (W : Wd K F G σ H Γ) (hi : Γ[i]? = some (.ow pin (.dct t kvs))) : ∃ p ws, σ[i]? = some (some (.ref p)) ∧ H p = some (.dK ws) ∧ RepD K t G ws kvs := by
  obtain ⟨b, ho, e1, e2, e3, e4, e5, e6⟩ := W.sl i _ hi
  obtain ⟨ws, rfl, r⟩ := e5
  exact ⟨b, ws, e1, e4, r⟩
theorem Wd.mutateD {p : Addr} {ws' : List (Key × V)} (W : Wd K F G σ H Γ) (hi : Γ[i]? = some (.ow pin (.dct t kvs))) (hp : σ[i]? = some (some (.ref p))) (r : RepD K t G ws' kvs') : Wd K F G σ (upd H p (.dK ws')) (Γ.set i (.ow pin (.dct t kvs'))) := by
  obtain ⟨b, ho, e1, e2, e3, e4, e5, e6⟩ := W.sl i _ hi
  rw [hp] at e1; cases e1
  refine W.callB hi hp (Same.refl G) (fun c o e => ?_) (fun c o ne e => ?_) (fun c o _ _ n => n) upd_same ⟨ws', rfl, r⟩
  · rw [upd_ne (ne_of_none e e2)]; exact W.gh c o e
  · rw [upd_ne ne]; exact e
end
section
variable {X : Cx} {a b e : Expr} {pos p pos' npos : Pos} {Γ Γ1 Γ2 : List Slot} {t : Ty} {kvs : List (Int × t.den)} {n : Str} {ρ : Type} {R : RI ρ}
/-- d[k] of an owned dict -/
theorem de_dget (i : Nat) (d : t.den) {k : Nat} {pin : Bool} {y : Int} (hr : RoomG k X.A) (hk : (dget kvs y).isSome = true) (hb : DE X b Γ .int y Γ1) (h : Γ1[i]? = some (.ow pin (.dct t kvs)) := by rfl) (h0 : Γ1[i]? = Γ[i]? := by rfl) (hN : X.N[i]? = some n := by rfl) (hv : Vis X.env.scope n := by first | exact Or.inl rfl | exact Or.inr (Or.inl rfl) | exact Or.inr (Or.inr rfl))
    (hd : (n == ("__debug__" : Str)) = false := by decide) (hcd : (n == ("__classdict__" : Str)) = false := by decide) (hs : NoSl b := by exact fun _ _ => rfl) : DE X (.Subscript (.Name n npos) b pos) Γ t (((dget kvs y).getD d)) Γ1 := fun F G σ H W Q q => by
  obtain ⟨p, ws, h1, h2, h3⟩ := W.ownedD (h0 ▸ h)
  have hu : X.A.units + 1 < cLine := by have := hr.units; omega
  refine wpe_of (pe_dget hu (pe_var hN hv hd hcd) pe_wp hs) ⟨.ref p, h1, hb F G σ H W _ fun w G1 H1 s1 W1 r1 => ?_⟩
  obtain ⟨p', ws', g1, g2, g3⟩ := W1.ownedD h
  rw [h1] at g1; cases g1
  cases e : dget kvs y with
  | none => rw [e] at hk; cases hk
  | some z =>
    obtain ⟨v, e1, e2⟩ := (repD_get g3).2 z e
    have r1 : w = V.int y := r1
    subst r1
    have e3 : Rep X.K t G1 v ((dget kvs y).getD d) := by rw [e]; exact e2
    exact ⟨p, v, rfl, by rw [← e1]; exact DGet.k (k := Sum.inl y) g2, q v G1 H1 s1 W1 e3⟩
/-- k in d, k not in d -/
theorem dc_dIn (i : Nat) {k : Nat} {pin : Bool} {y : Int} (hr : RoomG k X.A) (ha : DE X a Γ .int y Γ1) (h : Γ1[i]? = some (.ow pin (.dct t kvs)) := by rfl) (hN : X.N[i]? = some n := by rfl) (hv : Vis X.env.scope n := by first | exact Or.inl rfl | exact Or.inr (Or.inl rfl) | exact Or.inr (Or.inr rfl))
    (hd : (n == ("__debug__" : Str)) = false := by decide) (hcd : (n == ("__classdict__" : Str)) = false := by decide) : DC X .In a (.Name n npos) Γ (dget kvs y).isSome Γ1 := fun F G σ H W Q q => by
  have hu : X.A.units + 1 < cLine := by have := hr.units; omega
  refine wpc_of (pc_din hu pe_wp (pe_var hN hv hd hcd)) (ha F G σ H W _ fun w G1 H1 s1 W1 r1 => ?_)
  obtain ⟨p, ws, h1, h2, h3⟩ := W1.ownedD h
  have r1 : w = V.int y := r1
  subst r1
  refine ⟨.ref p, h1, p, valV ws (Sum.inl y), rfl, DGet.k (k := Sum.inl y) h2, q _ G1 H1 s1 W1 ?_⟩
  cases e : dget kvs y with
  | none => rw [(repD_get h3).1 e]; rfl
  | some z => obtain ⟨v, e1, _⟩ := (repD_get h3).2 z e; rw [e1]; rfl
theorem dc_dNotIn (i : Nat) {k : Nat} {pin : Bool} {y : Int} (hr : RoomG k X.A) (ha : DE X a Γ .int y Γ1) (h : Γ1[i]? = some (.ow pin (.dct t kvs)) := by rfl) (hN : X.N[i]? = some n := by rfl) (hv : Vis X.env.scope n := by first | exact Or.inl rfl | exact Or.inr (Or.inl rfl) | exact Or.inr (Or.inr rfl))
    (hd : (n == ("__debug__" : Str)) = false := by decide) (hcd : (n == ("__classdict__" : Str)) = false := by decide) : DC X .NotIn a (.Name n npos) Γ (!(dget kvs y).isSome) Γ1 := fun F G σ H W Q q => by
  have hu : X.A.units + 1 < cLine := by have := hr.units; omega
  refine wpc_of (pc_dnotin hu pe_wp (pe_var hN hv hd hcd)) (ha F G σ H W _ fun w G1 H1 s1 W1 r1 => ?_)
  obtain ⟨p, ws, h1, h2, h3⟩ := W1.ownedD h
  have r1 : w = V.int y := r1
  subst r1
  refine ⟨.ref p, h1, p, valV ws (Sum.inl y), rfl, DGet.k (k := Sum.inl y) h2, q _ G1 H1 s1 W1 ?_⟩
  cases e : dget kvs y with
  | none => rw [(repD_get h3).1 e]; rfl
  | some z => obtain ⟨v, e1, _⟩ := (repD_get h3).2 z e; rw [e1]; rfl
/-- d[k] = v -/
theorem ds_dput (i : Nat) {k : Nat} {pin : Bool} {y : Int} {x : t.den} (hr : RoomG k X.A) (hz : kvs.length < 100000) (hv2 : DE X e Γ t x Γ1) (hb : DE X b Γ1 .int y Γ2) (h1 : Γ1[i]? = some (.ow pin (.dct t kvs)) := by rfl) (h2 : Γ2[i]? = some (.ow pin (.dct t kvs)) := by rfl) (hN : X.N[i]? = some n := by rfl) (hv : Vis X.env.scope n := by first | exact Or.inl rfl | exact Or.inr (Or.inl rfl) | exact Or.inr (Or.inr rfl))
    (hd : (n == ("__debug__" : Str)) = false := by decide) (hcd : (n == ("__classdict__" : Str)) = false := by decide) (hs : swapsWith e (some (.Subscript (.Name n npos) b pos')) pos.line X.env = pure false := by rfl) :
    DS X R (.Assign [.Subscript (.Name n npos) b pos'] e pos) Γ (.nx (Γ2.set i (.ow pin (.dct t (dput kvs y x))))) := fun F G σ H W D q => by
  have hu : X.A.units + 1 < cLine := by have := hr.units; omega
  refine wps_of (ps_dput hu (pe_var hN hv hd hcd) pe_wp pe_wp hs) (hv2 F G σ H W _ fun v G1 H1 s1 W1 r1 => ?_)
  obtain ⟨p, ws, e1, e2, e3⟩ := W1.ownedD h1
  refine ⟨.ref p, e1, hb F G1 σ H1 W1 _ fun w G2 H2 s2 W2 r2 => ?_⟩
  obtain ⟨p', ws', g1, g2, g3⟩ := W2.ownedD h2
  rw [e1] at g1; cases g1
  have r2 : w = V.int y := r2
  subst r2
  exact ⟨p, _, rfl, DPut.k (k := Sum.inl y) g2 (by rw [repD_len g3]; exact Nat.lt_of_lt_of_le hz (by decide)), q σ G2 _ (s1.trans s2) (W2.mutateD h2 e1 (repD_put g3 (rep_mono s2 t v x r1)))⟩
/-- {k: v} -/
theorem do_dlit1 {y : Int} {x : t.den} (hk : DE X a Γ .int y Γ1) (hv : DE X b Γ1 t x Γ2) : DO X (.Dict [some a] [b] pos) Γ (.dct t [(y, x)]) Γ2 := fun F G σ H W Q q => by
  refine wpe_of (pe_disp (pps_cons pe_wp pe_wp pps_nil) rfl rfl (by simp) (by simp)) fun p hp => ?_
  refine hk _ G σ _ (W.new hp) _ fun v G1 H1 s1 W1 r1 => hv _ G1 σ H1 W1 _ fun w G2 H2 s2 W2 r2 => ?_
  have r1 : v = V.int y := r1
  subst r1
  have hT : H2 p = some (.dK []) := (W2.th p _ upd_same)
  exact ⟨hT, [(Sum.inl y, w)], rfl, by simp, q p _ G2 _ (s1.trans s2) W2.grow (W.tn hp) ⟨[(Sum.inl y, w)], rfl, .cons ⟨rfl, r2⟩ .nil⟩⟩
/-- xs.index(x) of a list -/
theorem idx_atG {α : Type} [DecidableEq α] {xs : List α} {x : α} (h : x ∈ xs) : xs[idx xs x]? = some x ∧ ∀ m, m < idx xs x → xs[m]? ≠ some x := by
  have hl : idx xs x < xs.length := by
    unfold idx
    rw [List.findIdx_lt_length]
    exact ⟨x, h, by simp⟩
  refine ⟨?_, fun m hm e => ?_⟩
  · rw [List.getElem?_eq_getElem hl]
    have := List.findIdx_getElem (p := fun y => decide (y = x)) (xs := xs) (w := hl)
    exact congrArg some (of_decide_eq_true this)
  · have := List.not_of_lt_findIdx (p := fun y => decide (y = x)) (xs := xs) hm
    obtain ⟨h1, h2⟩ := List.getElem?_eq_some_iff.mp e
    simp [h2] at this
theorem de_lindex {k : Nat} {apos : Pos} {x : t.den} {xs : List t.den} [DecidableEq t.den] (hr : RoomG k X.A) (hx : x ∈ xs) (hl : Lay t x) (hl2 : ∀ y ∈ xs, Lay t y) (ha : DE X a Γ (.lst t) xs Γ1) (hb : DE X b Γ1 t x Γ2) (he : t.canEq = true := by rfl) (hd : (Ty.lst t).dep ≤ 60 := by decide) (hd2 : t.dep ≤ 60 := by decide)
    (hbase : attributeBase a "index" X.env (eval a X.env) = eval a X.env := by rfl)
    (hfew : ((backTo pos (starEach [b] X.env)).all (fun x => !x.1) && (backToKw pos (keywordEach [] X.env)).all (fun x => x.1.isSome) && decide (([b] : List Expr).length + ([] : List Keyword).length + (if ([] : List Keyword).isEmpty then 0 else 1) < 30)) = true := by rfl)
    (hline : (apos.endLine == pos.line) = true := by rfl) (hs : starEach [b] X.env = (false, eval b X.env) :: starEach [] X.env := by rfl) (hpl : (backTo pos (starEach [] X.env)).any (·.1) = false := by rfl) : DE X (.Call (.Attribute a "index" apos) [b] [] pos) Γ .int ((idx xs x : Nat) : Int) Γ2 := fun F G σ H W Q q =>
  wpe_of (pe_bm PySem.F.plainAttrs_list PySem.F.slot_list_index PySem.F.type_list_index (mt_indexD (RoomG.u65 hr)) pe_wp pa_wp hbase hfew hline hs hpl) (ha F G σ H W _ fun v G1 H1 s1 W1 r1 => by
    obtain ⟨p, vs, rfl, h1, h2⟩ := id r1
    refine ⟨.inl ⟨rfl, vs, .inl (rd_mono W1.gh h1)⟩, wpa_one hs (hb F G1 σ H1 W1 _ fun w G2 H2 s2 W2 r2 => ?_)⟩
    obtain ⟨i1, i2⟩ := idx_atG hx
    refine ⟨p, w, toPy t x, xs.map (toPy t), idx xs x, toPy t x, rfl, rfl, rep_dp W2.gh (.lst t) _ xs (rep_mono s2 (.lst t) _ xs r1), rep_dp W2.gh t w x r2, shaped_of (t := .lst t) (lay_lst.mpr hl2) hd, shaped_of hl hd2, ?_, ?_, fun m z hm hz => ?_, q _ G2 H2 (s1.trans s2) W2 rfl⟩
    · rw [List.getElem?_map, i1]; rfl
    · rw [eqv_dec he, decide_eq_true rfl]
    · rw [List.getElem?_map] at hz
      cases e : xs[m]? with
      | none => rw [e] at hz; cases hz
      | some y =>
        rw [e] at hz
        have hz : toPy t y = z := Option.some.inj hz
        rw [← hz, eqv_dec he]
        exact decide_eq_false fun c => i2 m hm (by rw [e, c]))
end
end Dn

set_option Elab.async false
set_option linter.all false
set_option maxRecDepth 100000
set_option maxHeartbeats 1000000
namespace Rv
open PySem PySem.Spec PyProof.Rows RT
/-! Dn19: tuple(reversed(t)), t a tuple -/
theorem nolen : typeLookup (.type "reversed") "__len__" = pure none := by rw [typeLookup_type, builtinLookup_eq_fast]; kernel_rfl
theorem slot_hint : Slot "reversed" "__length_hint__" "reversed.__length_hint__" :=
  .of (owner := "reversed") (n := "__length_hint__") (by rw [typeLookup_type, builtinLookup_eq_fast]; kernel_rfl) (by decide +kernel) (by decide +kernel) (by decide +kernel)
    (by first | exact .inl (by decide +kernel) | exact .inr (by decide +kernel)) (by rw [isSubtype_type]; kernel_rfl)
theorem entry_hint : entryFor table "reversed.__length_hint__" = some Builtin.«reversed.__length_hint__» := entryFor_of_tree (by kernel_rfl)
theorem args_hint (a : Value) : argsOk "reversed.__length_hint__" ⟨[a], []⟩ := by
  unfold argsOk; rw [signature?_of (id := "reversed.__length_hint__") (n := ['_', '_', 't', 'n', 'i', 'h', '_', 'h', 't', 'g', 'n', 'e', 'l', '_', '_']) (o := ['d', 'e', 's', 'r', 'e', 'v', 'e', 'r']) (by kernel_rfl) owner_rt]; kernel_rfl
section
variable {prog : Program} {w : World} {A : Around} {E : Value → Shared → Prop} {s : Shared}
theorem walks (hh : A.handled = none) (I t : Addr) (hne : t ≠ I) (items : Array Value) (hsz : items.size ≤ sizeLine) :
    Walks prog w A I [I, t] [I] items.size (fun i v => items[items.size - 1 - i]? = some v) (fun i h => i ≤ items.size ∧ IsRt h I t ((items.size : Int) - 1 - (i : Int)) ∧ IsTup h t items) where
  sub := fun b hb => by simp at hb; simp [hb]
  frame := fun _ _ _ x hk => ⟨x.1, x.2.1.at fun o e => hk I (by simp) o e, by
    obtain ⟨o, ho, r⟩ := x.2.2
    exact ⟨o, hk t (by simp) o ho, r⟩⟩
  item := fun i s Q E hi x hQ => by
    have e : (items.size : Int) - 1 - (i : Int) = ((items.size - 1 - i : Nat) : Int) := by omega
    have hit := x.2.1
    rw [e] at hit
    have hx : items[items.size - 1 - i]? = some (items[items.size - 1 - i]'(by omega)) := Array.getElem?_eq_getElem (by omega)
    refine next_rt_item hit x.2.2 hx hsz fun h' hit' hs' => ?_
    have e2 : ((items.size - 1 - i : Nat) : Int) - 1 = (items.size : Int) - 1 - ((i + 1 : Nat) : Int) := by omega
    rw [e2] at hit'
    exact hQ _ h' (s.toks + 1) hx ⟨hi, hit', IsTup.extBut x.2.2 hs'.extBut hne⟩ fun b o hb eo => hs'.extBut b o (fun h => hb (by simp [h])) eo
  done := fun s Q E x hQ => by
    have e : (items.size : Int) - 1 - (items.size : Int) = -1 := by omega
    have hit := x.2.1
    rw [e] at hit
    exact next_rt_end hh hit fun h' he' => hQ h' s.toks fun b o hb eo => he' b o (fun h => hb (by simp [h])) eo
  self := fun _ _ _ _ x hQ => iter_rt x.2.1 hQ
theorem hint {it t : Addr} {items : Array Value} {Q : Value → Shared → Prop} (hit : IsRt s.heap it t ((items.size : Int) - 1)) (ht : IsTup s.heap t items) (hfit : (items.size : Int) < 2 ^ 63)
    (hQ : ∀ tk n, Q (.int (items.size : Int) n) { s with toks := tk }) : wpAny (model prog w) A (call (.builtin "reversed.__length_hint__") [.ref it]) Q E s := by
  obtain ⟨o, ho, hc, hd⟩ := id hit
  refine wpAny_call_entry slot_hint hit.typeIs entry_hint ?_ (args_hint _)
  unfold Builtin.«reversed.__length_hint__»
  refine wpAny_bind (wpAny_of_eq (a := Value.ref it) rfl ?_)
  refine wpAny_bind (wpAny_field ho hd (x := .ref t) rfl ?_)
  try dsimp only
  rw [if_neg (by rw [show (Value.ref t == Value.none) = false from rfl]; exact Bool.false_ne_true)]
  refine wpAny_bind (PyProof.Rows.len_tuple ht hfit ?_)
  refine wpAny_bind (wpAny_of_eq (a := some ((items.size : Nat) : Int)) rfl ?_)
  try dsimp only
  refine wpAny_bind (wpAny_field (s := { s with toks := s.toks + 1 + 1 }) ho hd (x := rawInt ((items.size : Int) - 1)) rfl ?_)
  show wpAny _ _ (if (items.size : Int) < (items.size : Int) - 1 + 1 then _ else _) _ _ _
  rw [if_neg (by omega)]
  unfold retInt
  refine wpAny_bind (wpAny_mkInt ?_)
  have e : (items.size : Int) - 1 + 1 = (items.size : Int) := by omega
  rw [e]
  exact wpAny_pure ⟨_, rfl, hQ _ _⟩
theorem asInt_int (k : Int) (n : Tok) : asInt? (.int k n) = pure (some k) := rfl
theorem collect_rt {it t : Addr} {items : Array Value} {Q : List Value → Shared → Prop} (hh : A.handled = none) (hit : IsRt s.heap it t ((items.size : Int) - 1)) (ht : IsTup s.heap t items) (hne : t ≠ it) (hn : items.size ≤ sizeLine)
    (hQ : ∀ (h' : Heap) (tk : Nat) (acc : Array Value), (∀ b o, b ≠ it → s.heap.get? b = some o → h'.get? b = some o) → ItemsOf (fun i v => items[items.size - 1 - i]? = some v) acc items.size → Q acc.toList { s with heap := h', toks := tk }) :
    wpAny (model prog w) A (collect (.ref it)) Q E s := by
  have W := (walks (prog := prog) (w := w) (A := A.in1) hh it t hne items hn).toS
  obtain ⟨oi, hoi, _⟩ := id hit
  obtain ⟨ol, hol, _⟩ := id ht
  have hSi : s.heap.objs.size ≠ it := Nat.ne_of_gt (Heap.lt_size hoi)
  have hSl : s.heap.objs.size ≠ t := Nat.ne_of_gt (Heap.lt_size hol)
  have hSf : s.heap.objs.size ∉ [it, t] := by simp only [List.mem_cons, List.not_mem_nil, or_false, not_or]; exact ⟨hSi, hSl⟩
  unfold collect
  refine wpAny_bind (wpAny_runValue (codeAny_builtin F.entry_proto_collect ?_))
  rw [Around.under_plainId F.plain_proto_collect _]
  show wpAny _ A.in1 (newList [] >>= fun l' => again (.builtin "list.__iadd__" ⟨[l', .ref it], []⟩)) _ _ s
  refine wpAny_bind (wpAny_newObj_type ?_)
  refine wpAny_pure ⟨plainId_quiet F.plain_list_iadd _, codeAny_builtin F.entry_list_iadd ?_⟩
  rw [Around.under_plainId F.plain_list_iadd _]
  have hS₁ : (s.heap.push { cls := .type "list", data := .seq ([] : List Value).toArray }).get? s.heap.objs.size = some { cls := .type "list", data := .seq ([] : List Value).toArray } := Heap.get?_push_size _ rfl
  have hit1 : IsRt (s.heap.push { cls := .type "list", data := .seq ([] : List Value).toArray }) it t ((items.size : Int) - 1) := hit.at fun o e => Heap.get?_push_of_some _ e
  have ht1 : IsTup (s.heap.push { cls := .type "list", data := .seq ([] : List Value).toArray }) t items := ht.push _
  have hT : ({ s with heap := s.heap.push { cls := .type "list", data := .seq ([] : List Value).toArray } } : Shared).TypeIs (.ref it) "reversed" := IsRt.typeIs (s := { s with heap := s.heap.push { cls := .type "list", data := .seq ([] : List Value).toArray } }) hit1
  have h1 : Builtin.List.listSameRef (.ref s.heap.objs.size) (.ref it) = false := by simp [Builtin.List.listSameRef, hSi]
  have e0 : ((items.size : Nat) : Int) - 1 - ((0 : Nat) : Int) = (items.size : Int) - 1 := by omega
  show wpAny _ A.in1 (Builtin.List.listExtendWith (.ref s.heap.objs.size) (.ref it) (.ref s.heap.objs.size)) _ _ _
  unfold Builtin.List.listExtendWith
  refine wpAny_bind (wpAny_typeOf hT ?_)
  rw [if_neg (by rw [h1]; decide)]
  refine wpAny_bind (iter_rt (s := { s with heap := s.heap.push { cls := .type "list", data := .seq ([] : List Value).toArray } }) hit1 ?_)
  refine wpAny_bind (wpAny_holding ?_)
  unfold Builtin.List.listLengthHint
  refine wpAny_bind (wpAny_specialOf hT nolen ?_)
  show wpAny _ A.in1 (specialOf (Value.ref it) (Str.ofString "__length_hint__") >>= _) _ _ _
  refine wpAny_bind (wpAny_specialOf hT slot_hint.lookup ?_)
  generalize hid : ("reversed.__length_hint__" : String) = id0
  wp_delta
  rw [show splitId id0 = some ("reversed", "__length_hint__") from by subst hid; decide +kernel]
  subst hid
  refine wpAny_bind (wpAny_isInstance (b := true) hT (by rw [isSubtype_type]; kernel_rfl) ?_)
  rw [if_neg (by decide)]
  dsimp only
  rw [if_neg (by decide +kernel)]
  refine wpAny_bind (wpAny_rule ?_)
  refine wpAny_bind (wpAny_of_eq (slot_hint.bind _) ?_)
  dsimp only
  have hfit : (items.size : Int) < 2 ^ 63 := by rw [sizeLine_eq] at hn; omega
  refine wpAny_bind (wpAny_attempt (hint (s := { s with heap := s.heap.push { cls := .type "list", data := .seq ([] : List Value).toArray } }) hit1 ht1 hfit fun tk n => ?_))
  dsimp only
  refine wpAny_bind ?_
  rw [asInt_int]
  refine wpAny_pure ?_
  dsimp only
  rw [if_neg (by rw [show Builtin.List.listFitsIndex (items.size : Int) = true from by unfold Builtin.List.listFitsIndex; rw [decide_eq_true (by omega), decide_eq_true (by omega)]; rfl]; decide)]
  try dsimp only
  rw [if_neg (by omega)]
  try dsimp only
  rw [if_neg (by unfold Builtin.List.listTooLong; rw [decide_eq_false (by omega)]; decide)]
  try dsimp only
  refine wpAny_pure ?_
  by_cases h0 : items.size = 0
  · rw [if_neg (by rw [show ((items.size : Int) != 0) = false from by rw [h0]; rfl, Bool.false_or]; decide +kernel)]
    refine wpAny_pure ⟨plainId_quiet F.plain_extend_loop _, codeAny_extend_loopS W hn _ hSf _ items.size 0 _ _ _ rfl (Nat.zero_le _) ⟨Nat.zero_le _, by rw [e0]; exact hit1, ht1⟩ hS₁ (ItemsOf.nil _) fun s' acc' c' hm hS' hacc => ?_⟩
    show wpAny _ A (load s.heap.objs.size >>= _) _ _ s'
    refine wpAny_bind (wpAny_load hS' ?_)
    refine wpAny_pure ?_
    rw [Moved.eq_with hm]
    refine hQ s'.heap s'.toks acc' (fun b o hb e => hm.heap b o (fun hmem => ?_) (Heap.get?_push_of_some _ e)) hacc
    rcases List.mem_cons.mp hmem with e' | hmem
    · exact absurd (Heap.lt_size e) (by rw [e']; exact Nat.lt_irrefl _)
    · exact hb (List.mem_singleton.mp hmem)
  · rw [if_pos (by rw [show ((items.size : Int) != 0) = true from bne_iff_ne.mpr (by omega), Bool.true_or])]
    refine wpAny_bind (wpAny_rule ?_)
    refine wpAny_bind ?_
    show wpAny _ A.in1 (updateSeq s.heap.objs.size (·.push .none) >>= fun _ => updateSeq s.heap.objs.size (·.pop)) _ _ _
    refine wpAny_bind (wpAny_updateSeq hS₁ rfl ?_)
    have hS₂ := Heap.get?_update_self (Obj.mapSeq (·.push Value.none)) hS₁ rfl
    refine wpAny_updateSeq hS₂ rfl ?_
    have hS₃ := Heap.get?_update_self (Obj.mapSeq (·.pop)) hS₂ rfl
    have oth : ∀ b o, b ≠ s.heap.objs.size → (s.heap.push { cls := .type "list", data := .seq ([] : List Value).toArray }).get? b = some o →
        (((s.heap.push { cls := .type "list", data := .seq ([] : List Value).toArray }).update s.heap.objs.size (Obj.mapSeq (·.push Value.none))).update s.heap.objs.size (Obj.mapSeq (·.pop))).get? b = some o :=
      fun b o hb e => (Heap.get?_update_other _ _ (Ne.symm hb)).trans ((Heap.get?_update_other _ _ (Ne.symm hb)).trans e)
    refine wpAny_pure ⟨plainId_quiet F.plain_extend_loop _, codeAny_extend_loopS W hn _ hSf _ items.size 0 _ _ _ rfl (Nat.zero_le _) ⟨Nat.zero_le _, by rw [e0]; exact hit1.at fun o e => oth _ o (Ne.symm hSi) e, (let ⟨o, ho, r⟩ := ht1; ⟨o, oth t o (Ne.symm hSl) ho, r⟩)⟩ hS₃ (ItemsOf.nil _) fun s' acc' c' hm hS' hacc => ?_⟩
    show wpAny _ A (load s.heap.objs.size >>= _) _ _ s'
    refine wpAny_bind (wpAny_load hS' ?_)
    refine wpAny_pure ?_
    rw [Moved.eq_with hm]
    refine hQ s'.heap s'.toks acc' (fun b o hb e => hm.heap b o (fun hmem => ?_) (oth b o (fun z => absurd (Heap.lt_size e) (by rw [z]; exact Nat.lt_irrefl _)) (Heap.get?_push_of_some _ e))) hacc
    rcases List.mem_cons.mp hmem with e' | hmem
    · exact absurd (Heap.lt_size e) (by rw [e']; exact Nat.lt_irrefl _)
    · exact hb (List.mem_singleton.mp hmem)
theorem code_tuple_new_rt {it t : Addr} {items : Array Value} {Q₁ : Value → Shared → Prop} (hh : A.handled = none) (hit : IsRt s.heap it t ((items.size : Int) - 1)) (ht : IsTup s.heap t items) (hne : t ≠ it) (hn : items.size ≤ sizeLine)
    (h : ∀ (h' : Heap) (tk : Nat) (acc : Array Value), (∀ b o, b ≠ it → s.heap.get? b = some o → h'.get? b = some o) → ItemsOf (fun i v => items[items.size - 1 - i]? = some v) acc items.size →
      Q₁ (.ref h'.objs.size) { s with heap := h'.push { cls := .type "tuple", data := .seq acc }, toks := tk }) :
    codeAny (model prog w) A (.call (.builtin "tuple.__new__") ⟨[.type "tuple", .ref it], []⟩) (wants Q₁ E) s := by
  refine codeAny_of_tree ?_
  show wpAny _ A.in1 (do checkBuiltinCall "tuple.__new__" ⟨[.type "tuple", .ref it], []⟩; again (.builtin "tuple.__new__" ⟨[.type "tuple", .ref it], []⟩)) _ _ s
  refine wpAny_bind (wpAny_of_eq (F.newCall_tuple_1 _) (wpAny_pure ⟨plainId_quiet F.plain_tuple_new _, codeAny_builtin F.entry_tuple_new ?_⟩))
  rw [Around.under_plainId F.plain_tuple_new _]
  have hsub := sub_tuple_self
  have hinit := init_tuple_lookup
  have hmh := madeHere_tuple
  have hTI : s.TypeIs (.ref it) "reversed" := hit.typeIs
  have hh1 : A.in1.handled = none := hh
  wp_walk using wpAny_typeOf hTI, collect_rt (A := A.in1) hh1 hit ht hne hn
  intro h' tk acc hk hacc
  show wpAny _ _ (Builtin.Tuple.tupleExact acc.toList.toArray >>= fun v => ret v) _ _ _
  unfold Builtin.Tuple.tupleExact
  refine wpAny_bind (wpAny_newObj_type ?_ (by show acc.toList.toArray.size ≤ sizeLine; simp only [Array.toArray_toList]; rw [hacc.1]; exact hn))
  refine wpAny_pure ?_
  have e : acc.toList.toArray = acc := by simp
  rw [e]
  exact h h' tk acc hk hacc
theorem call_tuple_rt {it t : Addr} {items : Array Value} {Q : Value → Shared → Prop} (hh : A.handled = none) (hit : IsRt s.heap it t ((items.size : Int) - 1)) (ht : IsTup s.heap t items) (hne : t ≠ it) (hn : items.size ≤ sizeLine)
    (hQ : ∀ (h' : Heap) (tk : Nat) (acc : Array Value), (∀ b o, b ≠ it → s.heap.get? b = some o → h'.get? b = some o) → ItemsOf (fun i v => items[items.size - 1 - i]? = some v) acc items.size →
      Q (.ref h'.objs.size) { s with heap := h'.push { cls := .type "tuple", data := .seq acc }, toks := tk }) :
    wpAny (model prog w) A (call (.type "tuple") [.ref it]) Q E s := by
  refine callType_codes (Q₁ := fun obj s₁ => s₁.TypeIs obj "tuple" ∧ Q obj s₁) F.called_tuple (F.typeCall_tuple_1 _) F.entry_object_init
    (code_tuple_new_rt (A := A.in1) hh hit ht hne hn fun h' tk acc hk hacc => ⟨⟨_, Heap.get?_push_size _ rfl, rfl⟩, hQ h' tk acc hk hacc⟩) fun obj s₁ h₁ => ?_
  exact ⟨h₁.1, F.args_object_init_2 obj _, object_init_meets F.called_tuple.init.lookup F.called_tuple.made (by decide) prog w A.in1 _ s₁ ⟨h₁.1, rfl, h₁.2⟩⟩
end
end Rv
namespace Rv
open PySem PySem.Spec PyProof.Rows RT L2
/-- tuple(reversed(t)), t a tuple: a new one, without a dict of its own -/
def tTupRevT (K : PySem.W.Frag) (te : TE) : TE := fun σ H Q => te σ H fun v H1 => ∃ (a : Addr) (xs : List V), v = .ref a ∧ SqT K H1 a xs ∧ ∀ (q : Addr) (o : Obj), H1 q = none → o.dict = none → Q (.ref q) (upd H1 q (.frz o (.tup xs.reverse)))
section
variable {X : Cx}
theorem pe_tupRevT {e : Expr} {te : TE} {p p2 pos pos2 : Pos} (hc : X.calm = true) (hg : Gl X "tuple") (hm : X.mg "tuple" = none) (hg2 : Gl X "reversed") (hm2 : X.mg "reversed" = none) (he : PE X e te)
    (hs : starEach [e] X.env = (false, eval e X.env) :: starEach [] X.env := by rfl)
    (hs2 : starEach [.Call (.Name "reversed" p2) [e] [] pos2] X.env = (false, eval (.Call (.Name "reversed" p2) [e] [] pos2) X.env) :: starEach [] X.env := by rfl) :
    PE X (.Call (.Name "tuple" p) [.Call (.Name "reversed" p2) [e] [] pos2] [] pos) (tTupRevT X.K te) := by
  refine ⟨fun pins s σ H Q I h => ?_⟩
  refine Call_ (ld_blt I hg hm boot_tuple (PyProof.Rows.callWith_type1 (args_cons (Call_ (ld_blt I hg2 hm2 PyProof.Rows.boot_reversed (PyProof.Rows.callWith_type1 (args_cons (thn (he.run pins s σ H _ I h) fun u s1 ⟨v, H1, I1, r1, q1⟩ => args_nil ?_) hs) hs rfl))) hs2) hs2 rfl))
  obtain ⟨a, xs, ev, hq, q⟩ := q1
  subst ev
  obtain rfl : u = Value.ref a := r1
  obtain ⟨its, rv, p', hz⟩ := I1.tuple hq
  have hn : its.toArray.size ≤ sizeLine := by rw [List.size_toArray, ← rv.length]; exact hz
  have h63 : (its.toArray.size : Int) < 2 ^ 63 := by rw [sizeLine_eq] at hn; omega
  refine call_reversed_tup p' (fun A E Q k => PyProof.Rows.len_tuple p' h63 k) (args_nil ?_)
  have k0 : ∀ b o, s1.heap.get? b = some o → (s1.heap.push (rtObj a ((its.toArray.size : Int) - 1))).get? b = some o := fun b o e => Heap.get?_push_of_some _ e
  have I2 : Inv X pins σ H1 { s1 with heap := s1.heap.push (rtObj a ((its.toArray.size : Int) - 1)), toks := s1.toks + 1 + 1 } := I1.kept (t' := s1.toks + 1 + 1) k0
  obtain ⟨f0, f1, f2, f3, f4, f5⟩ := I1.fpOk (H' := H1) (b := s1.heap.objs.size) (Nat.le_refl _) (I1.hok.fresh (Nat.le_refl _))
  obtain ⟨ol, hol, _⟩ := id p'
  have hne : a ≠ s1.heap.objs.size := Nat.ne_of_lt (Heap.lt_size hol)
  refine call_tuple_rt (s := { s1 with heap := s1.heap.push (rtObj a ((its.toArray.size : Int) - 1)), toks := s1.toks + 1 + 1 }) (I1.ok.hd hc) ⟨_, Heap.get?_push_size _ rfl, rfl, rfl⟩ (p'.push _) hne hn fun h' tk acc hk hi => ?_
  have I3 : Inv X pins σ H1 { s1 with heap := h', toks := tk } := I2.turned (t' := tk) (fun b o hb e => hk b o hb e) f0 f1 f3 f4 f5
  refine ⟨.ref h'.objs.size, upd H1 h'.objs.size (.frz { cls := .type "tuple", data := .seq acc } (.tup xs.reverse)), I3.laid (t' := tk) (fun c o e => Heap.get?_push_of_some _ e) (Nat.le_refl _)
    ⟨Heap.get?_push_size _ rfl, by rw [List.length_reverse]; exact hz, acc.toList, vals_rev rv hi, ?_⟩, rfl, q _ _ (I3.hok.fresh (Nat.le_refl _)) rfl⟩
  rw [Array.toArray_toList]
  exact IsTup.new _ _
end
end Rv
namespace Dn
open PySem PySem.Spec PyProof.Rows L2
section
variable {X : Cx} {e : Expr} {p p2 pos pos2 : Pos} {Γ Γ1 : List Slot} {t : Ty} {xs : List t.den}
theorem de_tupRevU (hm : X.mg "tuple" = none) (hm2 : X.mg "reversed" = none) (h : DE X e Γ (.tup t) xs Γ1) (hc : X.calm = true := by rfl) (hg : Gl X "tuple" := by rfl) (hg2 : Gl X "reversed" := by rfl)
    (hs : starEach [e] X.env = (false, eval e X.env) :: starEach [] X.env := by rfl)
    (hs2 : starEach [.Call (.Name "reversed" p2) [e] [] pos2] X.env = (false, eval (.Call (.Name "reversed" p2) [e] [] pos2) X.env) :: starEach [] X.env := by rfl) :
    DE X (.Call (.Name "tuple" p) [.Call (.Name "reversed" p2) [e] [] pos2] [] pos) Γ (.tup t) xs.reverse Γ1 := fun F G σ H W Q q =>
  wpe_of (Rv.pe_tupRevT hc hg hm hg2 hm2 pe_wp hs hs2) (h F G σ H W _ fun v G1 H1 s1 W1 r1 => by
    obtain ⟨a, vs, rfl, h1, h2⟩ := r1
    refine ⟨a, vs, rfl, sqt_mono W1.gh h1.t, fun l o hl ho => ?_⟩
    have sm := same_upd (o := .frz o (.tup vs.reverse)) (W1.gn hl)
    exact q _ _ _ (s1.trans sm) (W1.newG hl) ⟨l, _, rfl, ⟨o, upd_same, ho⟩, pair_rev (repL_mono sm h2)⟩)
end
end Dn

set_option Elab.async false
set_option linter.all false
set_option maxRecDepth 100000
set_option maxHeartbeats 1000000
/-! Dn20: a text or a tuple, times a number -/
namespace Dn
open PySem PySem.Spec PyProof.Rows L2
def RepOk (n : Nat) (k : Int) : Prop := 1 ≤ n ∧ n ≤ 1000 ∧ 2 ≤ k ∧ k ≤ 1000
section
variable {X : Cx}
def rRepS : R2 := fun x y H Q => ∃ (a : List Nat) (k : Int), x = vS a ∧ y = .int k ∧ RepOk a.length k ∧ Q (vS (List.replicate k.toNat a).flatten) H
theorem foldl_repA (a : List Nat) (m : Nat) : (List.replicate m a.toArray).foldl (fun x y => x ++ y) #[] = (List.replicate m a).flatten.toArray := by
  have : ∀ (m : Nat) (b : List Nat), (List.replicate m a.toArray).foldl (fun x y => x ++ y) b.toArray = (b ++ (List.replicate m a).flatten).toArray := by
    intro m
    induction m with
    | zero => intro b; simp
    | succ m ih =>
      intro b
      rw [List.replicate_succ, List.foldl_cons, List.append_toArray, ih, List.replicate_succ, List.flatten_cons, List.append_assoc]
  have h := this m []
  rw [List.nil_append] at h
  exact h
theorem op_repS : OpR X (binaryOp .Mult) rRepS := by
  intro pins s σ H x y v u Q I rx ry h
  obtain ⟨a, k, rfl, rfl, ⟨h1, h2, h3, h4⟩, q⟩ := h
  obtain ⟨t, rfl⟩ := rx
  obtain ⟨t2, rfl⟩ := ry
  have hl : ((⟨a.toArray⟩ : Str).length) = a.length := by rw [len_mk]
  have e1 : (k == 1 || ((⟨a.toArray⟩ : Str).length == 0)) = false := by
    rw [hl, beq_eq_false_iff_ne.mpr (by omega), beq_eq_false_iff_ne.mpr (by omega)]; rfl
  have hm : a.length * k.toNat ≤ 1000 * 1000 := Nat.mul_le_mul h2 (by omega)
  refine PySem.P.mul_str (by rw [decide_eq_false (by omega), decide_eq_false (by omega)]; rfl) (fun _ _ => ?_) (fun _ _ => ?_) ?_
  · rw [hl]
    have : (a.length : Int) ≤ (2 ^ 63 - 1) / k := Int.le_ediv_of_mul_le (by omega) (by
      have : (a.length : Int) * k ≤ 1000 * k := Int.mul_le_mul_of_nonneg_right (by omega) (by omega)
      omega)
    omega
  · rw [hl]
    show decide (a.length * k.toNat > sizeLine) = false
    rw [sizeLine_eq]
    exact decide_eq_false (by omega)
  · rw [if_neg (by omega), e1, if_neg Bool.false_ne_true]
    show (Made.str ⟨(List.replicate k.toNat a.toArray).foldl (fun x y => x ++ y) #[]⟩).post _ _
    rw [foldl_repA]
    refine ⟨?_, vS _, H, I.tok _, ⟨s.toks, rfl⟩, q⟩
    rw [len_mk, PyProof.Rows.lm_len_rep_flat, sizeLine_eq, Nat.mul_comm]; omega
def rRepO (K : PySem.W.Frag) : R2 := fun x y H Q => ∃ l k xs, x = .ref l ∧ y = .int k ∧ SqT K H l xs ∧ RepOk xs.length k ∧ ∀ (p : Addr) (o : Obj), H p = none → o.dict = none → Q (.ref p) (upd H p (.frz o (.tup (List.replicate k.toNat xs).flatten)))
theorem op_repO : OpR X (binaryOp .Mult) (rRepO X.K) := by
  intro pins s σ H x y v u Q I rx ry h
  obtain ⟨l, k, xs, rfl, rfl, hT, ⟨hne, hz, h1, h2⟩, q⟩ := h
  cases rx
  obtain ⟨t, rfl⟩ := ry
  obtain ⟨its, r, ⟨⟨cls, dd, data, sl⟩, ho, hc, n, hd⟩, hs⟩ := I.tuple hT
  simp only at hc hd
  subst hc hd
  have hle : its.length = xs.length := r.length.symm
  have hi : its.toArray.isEmpty = false := by
    cases its with
    | nil => rw [← hle] at hne; cases hne
    | cons a b => rfl
  have hsz0 : its.toArray.size = xs.length := by rw [List.size_toArray, hle]
  have hm : ((its.toArray.size : Nat) : Int) * k ≤ 1000000 := by
    rw [hsz0]
    have a1 : ((xs.length : Nat) : Int) * k ≤ 1000 * k := Int.mul_le_mul_of_nonneg_right (by omega) (by omega)
    omega
  have a2 : k.toNat * xs.length ≤ 1000 * 1000 := Nat.mul_le_mul (by omega) hz
  have flen : (List.replicate k.toNat its).flatten.length ≤ sizeLine := by
    rw [PyProof.Rows.lm_len_rep_flat, hle, sizeLine_eq]; omega
  have c0 : (decide (k < -(2 ^ 63)) || decide (k ≥ 2 ^ 63)) = false := by
    rw [decide_eq_false (by omega), decide_eq_false (by omega)] <;> rfl
  have c1 : (its.toArray.isEmpty || k == 1) = false := by
    rw [hi, Bool.false_or]
    exact beq_eq_false_iff_ne.mpr (by omega)
  have c2 : (decide (k ≤ 0) || its.toArray.isEmpty) = false := by
    rw [hi, Bool.or_false]
    exact decide_eq_false (by omega)
  have c4 : Builtin.Tuple.tupleTooMany (((its.toArray.size : Nat) : Int) * k) = false := by
    unfold Builtin.Tuple.tupleTooMany
    rw [sizeLine_eq]
    exact decide_eq_false (by omega)
  refine wpAny_binaryOp_repeat_ref (T := "tuple") (U := "int") (by decide) ⟨_, ho, rfl⟩ (fun s' => typeIs_int s' k t) noFill_tuple_mul F.fills_int_mul F.slot_int_rmul repeat_tuple F.slot_int_index.lookup
    (call_meets F.slot_int_rmul (typeIs_int s k t) F.entry_int_rmul (F.args_int_rmul_2 _ _) (int_rmul_tuple k t l its.toArray n dd sl)
      ⟨ho, rfl, ⟨_, ho, rfl⟩, call_meets F.slot_tuple_mul ⟨_, ho, rfl⟩ F.entry_tuple_mul (F.args_tuple_mul_2 _ _) (tuple_mulW l its.toArray n dd sl k t c0 c1 c2 (by omega) c4 (by rw [size_rep, List.size_toArray]; exact flen)) ⟨ho, ?_⟩⟩)
  rw [size_rep]
  refine ⟨.ref s.heap.objs.size, upd H s.heap.objs.size (.frz { cls := .type "tuple", data := .seq (List.replicate k.toNat its).flatten.toArray } (.tup (List.replicate k.toNat xs).flatten)), I.laid (t' := s.toks) (fun b ob q => Heap.get?_push_of_some _ q) (Nat.le_refl _)
    ⟨Heap.get?_push_size _ rfl, by rw [PyProof.Rows.lm_len_rep_flat, sizeLine_eq]; omega, _, r.rep k.toNat, IsTup.new _ _⟩, rfl, q _ _ (I.hok.fresh (Nat.le_refl _)) rfl⟩
end
section
variable {X : Cx} {a b : Expr} {pos : Pos} {Γ Γ1 Γ2 : List Slot} {t : Ty}
theorem repL_rep {K : PySem.W.Frag} {G : Hp} {vs : List V} {xs : List t.den} (n : Nat) (r : RepL K t G vs xs) : RepL K t G (List.replicate n vs).flatten (List.replicate n xs).flatten := by
  induction n with
  | zero => exact .nil
  | succ n ih => rw [List.replicate_succ, List.replicate_succ, List.flatten_cons, List.flatten_cons]; exact pair_app r ih
theorem de_repS {x : List Nat} {k : Int} (h : RepOk x.length k) (ha : DE X a Γ .str x Γ1) (hb : DE X b Γ1 .int k Γ2) : DE X (.BinOp a .Mult b pos) Γ .str (List.replicate k.toNat x).flatten Γ2 := fun F G σ H W Q q =>
  wpe_of (pe_op op_repS pe_wp pe_wp) (ev_op (τ := .str) (c := (List.replicate k.toNat x).flatten) ha hb (fun G H v w Q _ r1 r2 q => ⟨x, k, r1, r2, h, q _ rfl⟩) F G σ H W Q q)
theorem de_repU {xs : List t.den} {k : Int} (h : RepOk xs.length k) (ha : DE X a Γ (.tup t) xs Γ1) (hb : DE X b Γ1 .int k Γ2) : DE X (.BinOp a .Mult b pos) Γ (.tup t) (List.replicate k.toNat xs).flatten Γ2 := fun F G σ H W Q q =>
  wpe_of (pe_op op_repO pe_wp pe_wp) (ha F G σ H W _ fun v G1 H1 s1 W1 r1 => hb F G1 σ H1 W1 _ fun w G2 H2 s2 W2 r2 => by
    obtain ⟨a1, vs, rfl, h1, h2⟩ := r1
    have el := pair_len h2
    refine ⟨a1, k, vs, rfl, r2, sqt_mono (s2.trans W2.gh) h1.t, by rw [el]; exact h, fun p o hp ho => ?_⟩
    have sm := same_upd (o := .frz o (.tup (List.replicate k.toNat vs).flatten)) (W2.gn hp)
    refine q _ _ _ ((s1.trans s2).trans sm) (W2.newG hp) ⟨p, _, rfl, ⟨o, upd_same, ho⟩, ?_⟩
    exact repL_rep _ (repL_mono (s2.trans sm) h2))
end
end Dn

set_option Elab.async false
set_option linter.all false
set_option maxRecDepth 100000
set_option maxHeartbeats 1000000
/-! Dn21: names that may be unset (slot .mb) -/
namespace Dn
open PySem PySem.Spec PyProof.Rows L2
section
variable {K : PySem.W.Frag} {F : Fx} {G : Hp} {σ : L2.St} {H : Hp} {Γ : List Slot} {t : Ty}
theorem Wd.reslot {i : Nat} {s : Slot} (W : Wd K F G σ H Γ) (ok : SlotOk K F G H (σ[i]?) s) (ho : s.isOw = false) (hn : s.isNs = false) : Wd K F G σ H (Γ.set i s) where
  len := by rw [List.length_set]; exact W.len
  gh := W.gh
  th := W.th
  tg := W.tg
  sl := fun j s' e => by
    rcases set_get e with ⟨rfl, rfl, _⟩ | ⟨_, e⟩
    · exact ok
    · exact W.sl j s' e
  dj := fun j k s1 s2 p ne e1 o1 e2 o2 => W.dj j k s1 s2 p ne (set_ow ho e1 o1).2 o1 (set_ow ho e2 o2).2 o2
  ns := W.ns.go (fun j t x e => ⟨(set_ns hn e).2, rfl⟩) (Same.refl G) fun a o q1 q2 q3 q4 => ⟨q1, q2, q3, fun j s e o => q4 j s (set_ow ho e o).2 o⟩
theorem ent_mb0 (i : Nat) (t : Ty) : Ent K Γ (Γ.set i (.mb t none)) := fun F G σ H W => ⟨G, Same.refl G, W.reslot (s := .mb t none) (fun y z => nomatch z) rfl rfl⟩
theorem ent_mb1 (i : Nat) {x : t.den} (h : Γ[i]? = some (.fr t x) := by rfl) : Ent K Γ (Γ.set i (.mb t (some x))) := fun F G σ H W => ⟨G, Same.refl G, W.reslot (s := .mb t (some x)) (fun y z => by
  cases z
  exact W.sl i _ h) rfl rfl⟩
end
section
variable {X : Cx} {Γ : List Slot} {t : Ty} {pos : Pos}
theorem de_mbV (i : Nat) {x : Option t.den} {n : Str} (d : t.den) (hs : x.isSome = true) (h : Γ[i]? = some (.mb t x) := by rfl) (hN : X.N[i]? = some n := by rfl) (hv : Vis X.env.scope n := by first | exact Or.inl rfl | exact Or.inr (Or.inl rfl) | exact Or.inr (Or.inr rfl))
    (hd : (n == ("__debug__" : Str)) = false := by decide) (hcd : (n == ("__classdict__" : Str)) = false := by decide) : DE X (.Name n pos) Γ t (unopt d x) Γ := fun F G σ H W Q q => by
  cases x with
  | none => cases hs
  | some y =>
    obtain ⟨v, h1, r⟩ := W.sl i _ h y rfl
    exact wpe_of (pe_var hN hv hd hcd) ⟨v, h1, q v G H (Same.refl G) W r⟩
end
end Dn

set_option Elab.async false
set_option linter.all false
set_option maxRecDepth 100000
set_option maxHeartbeats 4000000
/-! Dn22: sorted(set(a list of ints)) -/
namespace Ss
open PySem PySem.Spec PyProof.Rows L2
section
variable {P : Program} {w : World} {A : Around} {E : Value → Shared → Prop} {s : Shared}
set_option maxRecDepth 100000 in
set_option maxHeartbeats 3200000 in
theorem call_set_lstI {l : Addr} {items : Array Value} (ns : List Int) {Q : Value → Shared → Prop} (hh : A.handled = none) (hl : s.heap.IsList l items) (hit : IntsAre items.toList ns) (hb : ns.length + 1 < scanBound)
    (h : ∀ (h' : Heap) (tk c : Nat), SetR w h' s.heap.objs.size (fun j => decide (j ∈ ns)) c → c ≤ ns.length → (∀ b o, s.heap.get? b = some o → h'.get? b = some o) → Q (.ref s.heap.objs.size) { s with heap := h', toks := tk }) :
    wpAny (model P w) A (call (.type "set") [.ref l]) Q E s := by
  have hisz : items.size = ns.length := by
    have q := IntsAre.length hit
    rw [Array.length_toList] at q
    exact q
  obtain ⟨c, tl, hmro⟩ := F.called_set.mro
  have hmade := F.called_set.made
  have hsub := F.called_set.sub
  refine wpAny_call (codeAny_of_tree ?_)
  show wpAny _ _ (callAny (.type "set") _) _ _ _
  refine wpAny_pure ⟨Code.quiet_builtin _ (by decide +kernel), codeAny_builtin F.entry_type_call ?_⟩
  rw [Around.under_plain (weight_type_call_type "set" [.ref l] []) rfl]
  have h1 := F.called_set.notType
  have h2 := F.called_set.canCreate
  have hct := F.typeCall_set_1 (.ref l)
  repeat (any_goals (first | assumption | wp_step))

  refine codeAny_mono (code_set_led1 (.ref l) (E := E) (Q₁ := fun obj s₁ => obj = .ref s.heap.objs.size ∧ s₁ = { s with heap := s.heap.push { cls := .type "set", dict := none, data := .set #[] 0 (.fresh 0 0 (!w.params.followText "set-order")) } }) ⟨rfl, rfl⟩) fun r s₁ hr => ?_
  cases r with
  | error e => exact hr
  | ok fl =>
    cases fl with
    | ret obj =>
      obtain ⟨rfl, rfl⟩ := hr
      have hS : (s.heap.push { cls := .type "set", dict := none, data := .set #[] 0 (.fresh 0 0 (!w.params.followText "set-order")) }).get? s.heap.objs.size = some { cls := .type "set", dict := none, data := .set #[] 0 (.fresh 0 0 (!w.params.followText "set-order")) } := Heap.get?_push_size _ rfl
      have hT : Shared.TypeIs { s with heap := s.heap.push { cls := .type "set", dict := none, data := .set #[] 0 (.fresh 0 0 (!w.params.followText "set-order")) } } (.ref s.heap.objs.size) "set" := ⟨_, hS, rfl⟩
      have hli := F.called_set.init.lookup
      have hbi := F.called_set.init.bind (.ref s.heap.objs.size)
      repeat (any_goals (first | assumption | wp_step))

      refine codeAny_mono (codeAny_call_builtin (R := wants (fun r s₂ => r = .none ∧ ∃ h' tk c, s₂ = { s with heap := h', toks := tk } ∧ SetR w h' s.heap.objs.size (fun j => decide (j ∈ ns)) c ∧ c ≤ ns.length ∧
          (∀ b o, s.heap.get? b = some o → h'.get? b = some o)) E) F.called_set.init.plain F.entry_set_init (check_set_init_1 hT ?_)) fun r₂ s₂ hr₂ => ?_
      · obtain ⟨ol, hol, hcl, nl, hdl⟩ := hl
        obtain ⟨ocls, odict, odata, oslots⟩ := ol
        simp only at hcl hdl
        subst hcl; subst hdl
        have hol' : (s.heap.push { cls := .type "set", dict := none, data := .set #[] 0 (.fresh 0 0 (!w.params.followText "set-order")) }).get? l = some { cls := .type "list", dict := odict, data := .seq items nl, slots := oslots } := Heap.get?_push_of_some _ hol
        have hsls := F.sub_list_set
        have hslf := F.sub_list_frozenset
        have hne : (Value.type "list" == Value.type "dict") = false := by decide
        have hl1 : (s.heap.push { cls := .type "set", dict := none, data := .set #[] 0 (.fresh 0 0 (!w.params.followText "set-order")) }).IsList l items := ⟨_, hol', rfl, nl, rfl⟩
        unfold Builtin.«set.__init__» noKeywords Builtin.Frozenset.updateFrom
        generalize hPI : pyIter = PI
        wp_walk
        subst hPI

        refine wpAny_pyIter_list hl1 ?_
        refine wpAny_bind (wpAny_runValue ?_)
        have hlS : l < s.heap.objs.size := Heap.lt_size hol
        have hh3 : A.in1.in1.in1.handled = none := by simp [hh]
        have hz1 : (s.heap.push { cls := .type "set", dict := none, data := .set #[] 0 (.fresh 0 0 (!w.params.followText "set-order")) }).objs.size = s.heap.objs.size + 1 := Heap.size_push ..
        have hneI : l ≠ (s.heap.push { cls := .type "set", dict := none, data := .set #[] 0 (.fresh 0 0 (!w.params.followText "set-order")) }).objs.size := by
          rw [Heap.size_push]; exact Nat.ne_of_lt (Nat.lt_succ_of_lt hlS)
        have hSf : s.heap.objs.size ∉ [(s.heap.push { cls := .type "set", dict := none, data := .set #[] 0 (.fresh 0 0 (!w.params.followText "set-order")) }).objs.size, l] := by
          rw [Heap.size_push]; simp only [List.mem_cons, List.mem_singleton, List.not_mem_nil, or_false, not_or]
          exact ⟨Nat.ne_of_lt (Nat.lt_succ_self _), Nat.ne_of_gt hlS⟩
        have hval : ∀ (i : Nat) (v : Value), items[i]? = some v → ∃ k t, ns[i]? = some k ∧ v = .int k t := fun i v hv => by
          have hi : i < ns.length := by rw [← hisz]; exact (Array.getElem?_eq_some_iff.mp hv).1
          obtain ⟨t, e⟩ := PyProof.Rows.IntsAre.int_at hit i v (by rw [Array.getElem?_toList]; exact hv)
          refine ⟨ns[i], t, List.getElem?_eq_getElem hi, ?_⟩
          rw [e, List.getD_eq_getElem?_getD, List.getElem?_eq_getElem hi] <;> rfl
        refine set_update_ints ((Walks.list hh3 _ l hneI items).toS) s.heap.objs.size
          hSf ns hisz hb hval (items.size - 0) 0 _ (by omega) (Nat.zero_le _)
          ⟨⟨_, Heap.get?_push_size _ rfl, rfl, rfl⟩, (hl1.push _)⟩ ?hS0 ?hR
        case hS0 =>
          have hget : ((s.heap.push { cls := .type "set", dict := none, data := .set #[] 0 (.fresh 0 0 (!w.params.followText "set-order")) }).push { cls := .type "list_iterator", data := .fields #[.ref l, .int 0 0] }).get? s.heap.objs.size
              = some { cls := .type "set", dict := none, data := .set #[] 0 (.fresh 0 0 (!w.params.followText "set-order")) } := Heap.get?_push_of_some _ hS
          exact ⟨0, Nat.le_refl 0, setR_new_at hget⟩
        case hR =>
          intro s' c' hm hc' hS'
          obtain ⟨h', g2, d', tk', os'⟩ := s'
          have eg : g2 = s.gens := hm.gens
          have ed : d' = s.drawn := hm.drawn
          have eo : os' = s.os := hm.os
          subst eg; subst ed; subst eo
          show wpAny _ _ _ _ _ _
          refine wpAny_pure ?_
          show wpAny _ _ (ret Value.none) _ _ _
          rw [hisz] at hc'
          refine wpAny_pure ⟨rfl, h', tk', c', rfl, hS', hc', fun b o e => ?_⟩
          have hb0 : b < s.heap.objs.size := Heap.lt_size e
          have hb1 : b ≠ s.heap.objs.size := Nat.ne_of_lt hb0
          have hb2 : b ≠ (s.heap.push { cls := .type "set", dict := none, data := .set #[] 0 (.fresh 0 0 (!w.params.followText "set-order")) }).objs.size := by
            rw [Heap.size_push]; exact Nat.ne_of_lt (Nat.lt_succ_of_lt hb0)
          exact hm.heap b o (by simp only [List.mem_cons, List.mem_singleton, List.not_mem_nil, or_false, not_or]; exact ⟨hb1, hb2⟩) (Heap.get?_push_of_some _ (Heap.get?_push_of_some _ e))

      · cases r₂ with
        | error e => exact hr₂
        | ok fl₂ =>
          cases fl₂ with
          | ret r =>
            obtain ⟨rfl, h', tk, c', rfl, hS', hc', hk'⟩ := hr₂
            repeat (any_goals (first | assumption | wp_step))
            exact h _ _ _ hS' hc' hk'
          | _ => exact hr₂.elim
    | _ => exact hr.elim

end
end Ss
namespace Ss
open PySem PySem.Spec PyProof.Rows L2
/-- the members, rising, each once -/
def ins (k : Int) : List Int → List Int
  | [] => [k]
  | x :: l => if k < x then k :: x :: l else if k = x then x :: l else x :: ins k l
def sset (xs : List Int) : List Int := xs.foldr ins []
theorem mem_ins {k j : Int} : ∀ {l : List Int}, j ∈ ins k l ↔ j = k ∨ j ∈ l
  | [] => by simp [ins]
  | x :: l => by
    unfold ins
    split
    · simp
    · split
      · rename_i h; subst h; simp
      · rw [List.mem_cons, List.mem_cons, mem_ins (l := l)]
        exact ⟨fun h => by rcases h with h | h | h <;> simp [h], fun h => by rcases h with h | h | h <;> simp [h]⟩
theorem mem_sset {j : Int} : ∀ {xs : List Int}, j ∈ sset xs ↔ j ∈ xs
  | [] => by simp [sset]
  | x :: xs => by
    show j ∈ ins x (sset xs) ↔ _
    rw [mem_ins, mem_sset (xs := xs), List.mem_cons]
theorem ins_lt {k : Int} : ∀ {l : List Int}, l.Pairwise (· < ·) → (ins k l).Pairwise (· < ·)
  | [], _ => List.pairwise_singleton _ _
  | x :: l, h => by
    obtain ⟨h1, h2⟩ := List.pairwise_cons.mp h
    unfold ins
    split
    · rename_i c
      refine List.pairwise_cons.mpr ⟨fun y hy => ?_, h⟩
      rcases List.mem_cons.mp hy with rfl | hy
      · exact c
      · have := h1 y hy; omega
    · split
      · exact h
      · refine List.pairwise_cons.mpr ⟨fun y hy => ?_, ins_lt h2⟩
        rcases mem_ins.mp hy with rfl | hy
        · omega
        · exact h1 y hy
theorem sset_lt : ∀ {xs : List Int}, (sset xs).Pairwise (· < ·)
  | [] => .nil
  | x :: xs => ins_lt (sset_lt (xs := xs))
theorem lt_uniq : ∀ {l m : List Int}, l.Pairwise (· < ·) → m.Pairwise (· < ·) → (∀ k, k ∈ l ↔ k ∈ m) → l = m
  | [], [], _, _, _ => rfl
  | [], y :: m, _, _, h => absurd ((h y).mpr (List.mem_cons_self ..)) (by simp)
  | x :: l, [], _, _, h => absurd ((h x).mp (List.mem_cons_self ..)) (by simp)
  | x :: l, y :: m, hl, hm, h => by
    obtain ⟨l1, l2⟩ := List.pairwise_cons.mp hl
    obtain ⟨m1, m2⟩ := List.pairwise_cons.mp hm
    have e : x = y := by
      rcases List.mem_cons.mp ((h x).mp (List.mem_cons_self ..)) with h1 | h1
      · exact h1
      · rcases List.mem_cons.mp ((h y).mpr (List.mem_cons_self ..)) with h2 | h2
        · exact h2.symm
        · have a := m1 x h1
          have b := l1 y h2
          omega
    subst e
    rw [lt_uniq l2 m2 fun k => ⟨fun hk => by
      rcases List.mem_cons.mp ((h k).mp (List.mem_cons_of_mem _ hk)) with e | e
      · have := l1 k hk; omega
      · exact e, fun hk => by
      rcases List.mem_cons.mp ((h k).mpr (List.mem_cons_of_mem _ hk)) with e | e
      · have := m1 k hk; omega
      · exact e⟩]
theorem lt_nodup {l : List Int} (h : l.Pairwise (· < ·)) : l.Nodup := h.imp fun h => by omega
section
variable {X : Cx}
def rSetL (K : PySem.W.Frag) (w : World) : List V → Hp → VK → Prop := fun vs H Q => ∃ (p : Addr) (ns : List Int), vs = [.ref p] ∧ SqL K H p (ns.map V.int) ∧ ns.length ≤ 4000 ∧ ∀ a, H a = none → Q (.ref a) (upd H a (SetO w a (fun j => decide (j ∈ ns)) (sset ns).length))
theorem cr_setL (hc : X.calm = true) : CallR X (.type "set") (rSetL X.K X.w) := by
  intro pins s σ H vs us Q I r h
  obtain ⟨p, ns, rfl, hq, hl, q⟩ := h
  rw [Vals.ref1 r]
  obtain ⟨its, rv, pl, hz⟩ := I.list hq
  have hi : IntsAre its.toArray.toList ns := ints_of_vals rv
  refine call_set_lstI ns (I.ok.hd hc) pl.isList hi (by unfold scanBound; omega) fun h' tk c R1 hcn k => ?_
  have hn : c = (sset ns).length := by
    obtain ⟨o, es, ep, t, ho, hex, hdt, g, nd, hm2, hb, hf, hn, hr, hl2⟩ := R1
    have hp : (es.toList.map keyOf).Perm (sset ns) := (List.perm_ext_iff_of_nodup nd (lt_nodup sset_lt)).mpr fun j => by
      rw [mem_sset, ← hm2 j, decide_eq_true_eq]
    rw [← hn, ← hp.length_eq, List.length_map, Array.length_toList]
  subst hn
  exact ⟨.ref _, upd H s.heap.objs.size _, I.laid (t' := tk) (o := SetO X.w s.heap.objs.size (fun j => decide (j ∈ ns)) (sset ns).length) k (Nat.le_refl _) (setO_new R1), rfl, q _ (I.hok.fresh (Nat.le_refl _))⟩
end
end Ss
namespace Dn
open PySem PySem.Spec PyProof.Rows L2 Ss
section
variable {X : Cx} {e : Expr} {p p2 pos pos2 : Pos} {Γ Γ1 : List Slot} {xs : List Int}
def SsOk (xs : List Int) : Prop := xs.length ≤ 4000 ∧ (sset xs).length < 64
theorem do_sset (hm : X.mg "sorted" = none) (hm2 : X.mg "set" = none) (hz : SsOk xs) (h : DL X e Γ .int xs Γ1) (hc : X.calm = true := by rfl) (hg : Gl X "sorted" := by rfl) (hg2 : Gl X "set" := by rfl)
    (hs : starEach [e] X.env = (false, eval e X.env) :: starEach [] X.env := by rfl) (hpl : (backTo pos2 (starEach [] X.env)).any (·.1) = false := by rfl)
    (hs2 : starEach [.Call (.Name "set" p2) [e] [] pos2] X.env = (false, eval (.Call (.Name "set" p2) [e] [] pos2) X.env) :: starEach [] X.env := by rfl) (hpl2 : (backTo pos (starEach [] X.env)).any (·.1) = false := by rfl) :
    DO X (.Call (.Name "sorted" p) [.Call (.Name "set" p2) [e] [] pos2] [] pos) Γ (.lst .int (sset xs)) Γ1 := fun F G σ H W Q q =>
  wpe_of (pe_callB (cr_sortedSet hc) hg hm (by decide +kernel) pa_wp (by decide) (by decide) hs2 hpl2) (wpa_one hs2
    (wpe_of (pe_callTy (cr_setL hc) hg2 hm2 (by decide +kernel) pa_wp (by decide) (by decide) hs hpl) (wpa_one hs (h F G σ H W _ fun a vs G1 H1 s1 W1 h1 h2 => by
      have e1 := repL_int h2
      subst e1
      refine ⟨a, xs, rfl, h1, hz.1, fun b hb => ⟨b, _, _, rfl, upd_same, hz.2, fun ns l hs1 hm1 hl1 hl => ?_⟩⟩
      have e2 : ns = sset xs := lt_uniq hs1 sset_lt fun k => by rw [hm1 k, mem_sset, decide_eq_true_eq]
      subst e2
      have W2 := (W1.new (ho := SetO X.w b (fun j => decide (j ∈ xs)) (sset xs).length) hb).drop (W1.tn hb)
      exact q l _ G1 _ s1 (W2.new hl) (W2.tn hl) ⟨_, rfl, repL_ints _⟩))))
end
end Dn

set_option Elab.async false
set_option linter.all false
set_option maxRecDepth 100000
set_option maxHeartbeats 4000000
/-! Dn23: enumerate(a tuple) -/
namespace PySem
open Sem (wp)
open AutoSeq1 (wpAny_loadPart')
theorem Et.meets_new (l : Addr) (items : Array Value) (n : Nat) (dct : Option Addr) (sl : Array (Option Value)) :
    Meets (Builtin.«enumerate.__new__» ⟨[.type "enumerate", .ref l], []⟩) (fun _ R s => s.heap.get? l = some { cls := .type "tuple", dict := dct, data := .seq items n, slots := sl } ∧
      R (.ok (.ret (.ref (s.heap.push { cls := .type "tuple_iterator", data := .fields #[.ref l, .int 0 0] }).objs.size)))
        { s with heap := (s.heap.push { cls := .type "tuple_iterator", data := .fields #[.ref l, .int 0 0] }).push { cls := .type "enumerate", data := .fields #[.none, .bool false, .ref s.heap.objs.size, rawInt 0, .none, .none] } }) :=
  .of_wp fun prog w A R s h => by
    obtain ⟨hp, g, d, tk, os⟩ := s; obtain ⟨hl, h⟩ := h
    have hsub := sub_enumerate
    have hL : Heap.IsTuple (Shared.heap ⟨hp, g, d, tk, os⟩) l items := ⟨_, hl, rfl, n, rfl⟩
    wp_walk using wpAny_loadPart' hl
    refine wpAny_stack_any fun st => wpAny_pure ?_
    split
    · rename_i c _ _ _ _ _
      cases (c == Value.type "enumerate")
      · wp_walk using wpAny_loadPart' hl, wpAny_pyIter_tuple hL
        exact ⟨_, rfl, h⟩
      · wp_walk using wpAny_loadPart' hl, wpAny_pyIter_tuple hL
        exact ⟨_, rfl, h⟩
    · wp_walk using wpAny_loadPart' hl, wpAny_pyIter_tuple hL
      exact ⟨_, rfl, h⟩
section
variable {prog : Program} {w : World} {A : Around} {E : Value → Shared → Prop} {s : Shared}
theorem Et.call {l : Addr} {items : Array Value} {Q : Value → Shared → Prop} (hL : s.heap.IsTuple l items)
    (h : ∀ h', IsEnum h' (s.heap.objs.size + 1) s.heap.objs.size 0 .none → h'.IsTupleIter s.heap.objs.size l 0 → h'.objs.size = s.heap.objs.size + 2 →
      (∀ b o, s.heap.get? b = some o → h'.get? b = some o) → Q (.ref (s.heap.objs.size + 1)) { s with heap := h' }) :
    wpAny (model prog w) A (call (.type "enumerate") [.ref l]) Q E s := by
  obtain ⟨⟨c, dct, dt, sl⟩, hl, hc, n, hd⟩ := hL
  replace hc : c = .type "tuple" := hc
  replace hd : dt = .seq items n := hd
  subst hc hd
  refine callType_new F.called_enumerate (by decide) (F.typeCall_enumerate_1 _) (F.newCall_enumerate_1 _) (fun obj => F.args_object_init_2 obj _) F.entry_enumerate_new
    (Et.meets_new l items n dct sl) ⟨hl, ?_⟩
  have hz : (s.heap.push { cls := .type "tuple_iterator", data := .fields #[.ref l, .int 0 0] }).objs.size = s.heap.objs.size + 1 := Heap.size_push ..
  show _ ∧ _
  rw [hz]
  have he : IsEnum ((s.heap.push { cls := .type "tuple_iterator", data := .fields #[.ref l, .int 0 0] }).push
      { cls := .type "enumerate", data := .fields #[.none, .bool false, .ref s.heap.objs.size, rawInt 0, .none, .none] }) (s.heap.objs.size + 1) s.heap.objs.size 0 .none := by
    have := Heap.get?_push_size (s.heap.push { cls := .type "tuple_iterator", data := .fields #[.ref l, .int 0 0] })
      (o := { cls := .type "enumerate", data := .fields #[.none, .bool false, .ref s.heap.objs.size, rawInt 0, .none, .none] }) rfl
    rw [hz] at this; exact this
  refine ⟨⟨_, he, rfl⟩, h _ he ⟨_, Heap.get?_push_of_some _ (Heap.get?_push_size _ rfl), rfl, rfl⟩ (by rw [Heap.size_push, hz]) fun b o x => Heap.get?_push_of_some _ (Heap.get?_push_of_some _ x)⟩
theorem Et.fin {e it l : Addr} {i : Nat} {items : Array Value} {old : Value} {Q : Option Value → Shared → Prop} (hh : A.handled = none)
    (he : IsEnum s.heap e it i old) (hit : s.heap.IsTupleIter it l i) (hl : s.heap.IsTuple l items) (hx : items[i]? = none)
    (hQ : ∀ h', Heap.ExtBut it s.heap h' → Q none { s with heap := h' }) : wpAny (model prog w) A (pyNext (.ref e)) Q E s := by
  have hT : s.TypeIs (.ref e) "enumerate" := ⟨_, he, rfl⟩
  unfold pyNext
  refine wpAny_bind (wpAny_attempt (wpAny_callSpecial?_slot (name := Str.ofString "__next__") hT F.slot_enumerate_next
    (wpAny_call_entry F.slot_enumerate_next hT F.entry_enumerate_next ?_ (F.args_enumerate_next_1 _))))
  show wpAny _ _ (field (.ref e) 2 >>= _) _ _ _
  refine wpAny_bind (wpAny_field he rfl (x := .ref it) rfl ?_)
  refine wpAny_bind (wpAny_nextOf_tuple_end hh hit hl hx fun h' x he' hx' => ?_)
  obtain ⟨o, ho, hc⟩ := hx'
  refine wpAny_bind (wpAny_isInstance (T := "StopIteration") (b := true) ⟨o, ho, hc⟩ isSubtype_stop ?_)
  exact wpAny_pure (hQ _ he')
end
end PySem
namespace Et
open PySem PySem.Spec PyProof.Rows L2
/-- the tuple at a, each item in a new pair -/
def It (K : PySem.W.Frag) (a : Addr) : L2.It :=
  ⟨fun i H => ∃ (xs : List V) (x : V), SqT K H a xs ∧ xs[i]? = some x, fun i H v H' => ∃ T x, v = .ref T ∧ H T = none ∧ H' = upd H T (.tup [.int (i : Nat), x]) ∧ ∀ xs, SqT K H a xs → xs[i]? = some x, fun i H => ∃ xs : List V, SqT K H a xs ∧ xs.length ≤ i⟩
theorem turn {P : Program} {w : World} {K : PySem.W.Frag} {elts : List Expr} {kk : Nat} {tpos : Pos} (a e it : Addr) (hat : a ≠ it) (hae : a ≠ e) :
    Turn P w K (.Tuple elts kk tpos) (It K a) [e, it] e (fun i h => (∃ old, IsEnum h e it ((i : Nat) : Int) old) ∧ h.IsTupleIter it a i ∧ e ≠ it) where
  mem := by simp
  obj := fun i h st b hb => by
    obtain ⟨⟨old, he⟩, ⟨o, ho, hc, hd⟩, _⟩ := st
    have e' : b = e ∨ b = it := by simpa using hb
    rcases e' with z | z
    · rw [z]; exact ⟨_, he, fun v q => nomatch q⟩
    · rw [z]; exact ⟨o, ho, fun v q => by rw [hd] at q; cases q⟩
  keep := fun i h h' st k => let ⟨⟨old, he⟩, hi, hne⟩ := st; ⟨⟨old, k e (by simp) _ he⟩, hi.at fun o q => k it (by simp) o q, hne⟩
  item := by
    intro X hP hw hK hc i pins s σ H E I hf st hg
    subst hP hw hK
    obtain ⟨⟨old, he⟩, hit, hne⟩ := st
    obtain ⟨xs, x, hq, hx⟩ := hg
    obtain ⟨its, rv, p, hz⟩ := I.tuple hq
    obtain ⟨u, hu, ru⟩ := rv.get hx
    have hel : e < s.heap.objs.size := Heap.lt_size he
    have hil : it < s.heap.objs.size := by obtain ⟨_, q, _⟩ := hit; exact Heap.lt_size q
    have hlt : i < its.toArray.size := by
      have := (List.getElem?_eq_some_iff.mp hu).1
      simpa using this
    refine wpAny_pyNext_enum_itemD (Draws.tuple (prog := X.prog) (w := X.w) (A := X.A.in1) (I.ok.hd hc) it a hat its.toArray) he ⟨hit, p⟩ hlt hne (by simp [hne, Ne.symm hae]) fun x' h' tk hx' ho st' hT hsz hk => ?_
    have ex : x' = u := by
      have h1 : its[i]? = some x' := by simpa using hx'
      rw [hu] at h1
      exact (Option.some.inj h1).symm
    subst ex
    refine ⟨_, rfl, wpAny_letOwnedTupleGo_enum (s := { s with heap := h', toks := tk + 1 }) ho fun h'' he' sb => ?_⟩
    have hT2 : h''.get? s.heap.objs.size = some { cls := .type "tuple", data := .seq #[.int i tk, x'] } := (sb.2 _ (Nat.ne_of_gt hel)).trans hT
    have new : ObjOk X.prog X.w (upd H s.heap.objs.size (.tup [.int (i : Nat), x])) h'' s.heap.objs.size (.tup [.int (i : Nat), x]) :=
      ⟨by show 2 ≤ sizeLine; decide, [.int i tk, x'], .cons ⟨_, rfl⟩ (.cons ru .nil), ⟨_, hT2, rfl, _, rfl⟩⟩
    have I1 : Inv X pins σ (upd H s.heap.objs.size (.tup [.int (i : Nat), x])) { s with heap := h'', toks := tk + 1 } :=
      I.turnedNew (ch := [e, it]) (fun b ob hb q => (sb.2 b (fun z => hb (by simp [z]))).trans (hk b ob (fun z => hb (by simp [z])) (fun z => hb (by simp [z])) q)) hf (Nat.le_refl _) new
    refine ⟨.ref s.heap.objs.size, _, I1, rfl, ⟨_, x, rfl, I.hok.fresh (Nat.le_refl _), rfl, fun ys hy => by rw [I.tuple_inj hy hq]; exact hx⟩, ⟨⟨x', ?_⟩, st'.1.at fun o q => (sb.2 it (Ne.symm hne)).trans q, hne⟩, fun b hb => ?_⟩
    · have e1 : ((i + 1 : Nat) : Int) = (i : Int) + 1 := by omega
      rw [e1]; exact he'
    · have hb' : b < s.heap.objs.size := by
        have e' : b = e ∨ b = it := by simpa using hb
        rcases e' with z | z
        · rw [z]; exact hel
        · rw [z]; exact hil
      rw [upd_ne (Nat.ne_of_lt hb')]
      exact (hf b hb).1
  done := by
    intro X hP hw hK hc i pins s σ H E I hf st hg
    subst hP hw hK
    obtain ⟨⟨old, he⟩, hit, hne⟩ := st
    obtain ⟨xs, hq, hx⟩ := hg
    obtain ⟨its, rv, p, hz⟩ := I.tuple hq
    obtain ⟨f0, f1, f2, f3, f4, f5⟩ := hf it (by simp)
    have hl := rv.length
    exact PySem.Et.fin (I.ok.hd hc) he hit p (by simp; omega) fun h' eb => ⟨rfl, I.turned (t' := s.toks) (fun b o hb q => eb b o hb q) f0 f1 f3 f4 f5⟩
  self := fun A i s Q E st h => let ⟨⟨_, he⟩, _⟩ := st; wpAny_pyIter_enum he h
end Et
namespace Et
open PySem PySem.Spec PyProof.Rows L2
def iEnum (K : PySem.W.Frag) (ta : TA) : TI := fun σ H R => ta σ H fun vs H1 => ∃ a xs, vs = [.ref a] ∧ SqT K H1 a xs ∧ R (It K a) H1
theorem pi_enum {X : Cx} {e : Expr} {ta : TA} {p pos tpos : Pos} {elts : List Expr} {kk : Nat} (hg : Gl X "enumerate") (hm : X.mg "enumerate" = none) (ha : PA X [e] ta) (hs : starEach [e] X.env = [(false, eval e X.env)] := by rfl) :
    PI X (.Tuple elts kk tpos) (.Call (.Name "enumerate" p) [e] [] pos) (iEnum X.K ta) := by
  refine ⟨fun pins s σ H R I h => ?_⟩
  refine Call_ (ld_blt I hg hm boot_enumerate (PyProof.Rows.callWith_type1 (thn (ha.run pos pins s σ H _ I h) fun us s1 ⟨vs, H1, I1, r1, q1⟩ => ?_) hs rfl))
  obtain ⟨a, xs, ex, hq, q⟩ := q1
  subst ex
  cases r1 with
  | cons r rr =>
    cases rr
    cases r
    obtain ⟨its, rv, p', hz⟩ := I1.tuple hq
    obtain ⟨oa, hoa, _⟩ := id p'
    have hla := Heap.lt_size hoa
    refine PySem.Et.call (show s1.heap.IsTuple a its.toArray from p') fun h' he hit hsz hk => wpAny_pyIter_enum he ?_
    have I2 : Inv X pins σ H1 { s1 with heap := h' } := I1.kept (t' := s1.toks) hk
    refine ⟨s1.heap.objs.size + 1, [s1.heap.objs.size + 1, s1.heap.objs.size], _, _, H1, rfl, I2, turn a (s1.heap.objs.size + 1) s1.heap.objs.size (Nat.ne_of_lt hla) (Nat.ne_of_lt (Nat.lt_succ_of_lt hla)), ⟨⟨.none, he⟩, hit, Nat.succ_ne_self _⟩, fun b hb => ?_, q⟩
    have e' : b = s1.heap.objs.size + 1 ∨ b = s1.heap.objs.size := by simpa using hb
    have hle : s1.heap.objs.size ≤ b := by
      rcases e' with z | z
      · rw [z]; exact Nat.le_add_right _ _
      · rw [z]; exact Nat.le_refl _
    exact I1.fpOk hle (I1.hok.fresh hle)
end Et
namespace Dn
open PySem PySem.Spec PyProof.Rows L2
section
variable {X : Cx} {e : Expr} {p pos tpos : Pos} {Γ Γ1 : List Slot} {t : Ty} {xs : List t.den} {g : TG} {tgs : List Nat}
theorem di_enumU {elts : List Expr} {kk : Nat} {B : Int × t.den → List Slot → List Slot} (hm : X.mg "enumerate" = none) (he : DE X e Γ (.tup t) xs Γ1) (hg : EvG X.K g (.p2 .int t) B tgs) (hgl : Gl X "enumerate" := by rfl) (hs : starEach [e] X.env = [(false, eval e X.env)] := by rfl) :
    DI X (.Tuple elts kk tpos) (.Call (.Name "enumerate" p) [e] [] pos) g Γ (enum xs) B tgs Γ1 := fun F G σ H W R q =>
  wpi_of (Et.pi_enum hgl hm pa_wp hs) ((da_cons he da_nil (by rw [hs]; rfl)) F G σ H W _ fun vs G' H' s W' r => by
    cases r with
    | @cons v _ _ _ r r' =>
      cases r'
      obtain ⟨a, vs, rfl, h1, h2⟩ := r
      have el := pair_len h2
      refine ⟨a, vs, rfl, sqt_mono W'.gh h1.t, q _ G' H' s W' ⟨fun i G2 H2 s1 s2 hi => ?_, fun G2 H2 s1 s2 => ⟨vs, sqt_mono (s1.trans s2) h1.t, by rw [enum_len]; exact Nat.le_of_eq el⟩, fun F i y G2 σ2 H2 Γ2 v H3 Q s1 W2 hy y' k => ?_⟩⟩
      · rw [enum_len] at hi
        exact ⟨vs, vs[i]'(by omega), sqt_mono (s1.trans s2) h1.t, List.getElem?_eq_getElem (by omega)⟩
      · obtain ⟨T, x, rfl, nT, rfl, e2⟩ := y'
        have e3 := e2 vs (sqt_mono (s1.trans W2.gh) h1.t)
        obtain ⟨y1, y2⟩ := y
        obtain ⟨f1, f2⟩ := enum_get hy
        simp only at f1 f2
        subst f1
        obtain ⟨v', e4, e5⟩ := pair_get h2 f2
        rw [e3] at e4; cases e4
        have sm := same_upd (o := .tup [.int (i : Nat), x]) (W2.gn nT)
        exact hg F _ σ2 _ Γ2 (.ref T) ((i : Int), y2) (W2.newG nT) ⟨T, _, x, rfl, upd_same, rfl, rep_mono (s1.trans sm) t x y2 e5⟩ Q fun σ' a' W3 => k _ σ' _ sm a' W3)
end
end Dn

set_option Elab.async false
set_option linter.all false
set_option maxRecDepth 100000
set_option maxHeartbeats 1000000
/-! Dn24: repr of an owned list -/
namespace Dn
open PySem PySem.Spec PyProof.Rows L2
section
variable {X : Cx} {e : Expr} {p pos : Pos} {Γ Γ1 : List Slot} {t : Ty} {xs : List t.den}
theorem de_reprL {k : Nat} (hr : RoomG k X.A) (hm : X.mg "repr" = none) (hz : ReprOk (.lst t) xs) (h : DL X e Γ t xs Γ1) (hd : (Ty.lst t).disp = true := by rfl) (hp : (Ty.lst t).dep ≤ 60 := by decide) (hg : Gl X "repr" := by rfl) (hs : starEach [e] X.env = (false, eval e X.env) :: starEach [] X.env := by rfl) (hpl : (backTo pos (starEach [] X.env)).any (·.1) = false := by rfl) : DE X (.Call (.Name "repr" p) [e] [] pos) Γ .str (reprL (.lst t) xs) Γ1 := fun F G σ H W Q q =>
  wpe_of (pe_callB (cr_reprD hr hd hp) hg hm (by decide +kernel) pa_wp (by decide) (by decide) hs hpl) (wpa_one hs (h F G σ H W _ fun a vs G1 H1 s1 W1 h1 h2 =>
    ⟨.ref a, xs, rfl, by
      have := dpAll_of (rep_dp W1.gh t) h2
      simp only [toPy]
      exact .lst h1 this, hz, q _ G1 H1 s1 W1 (by unfold reprL; rfl)⟩))
end
end Dn

set_option Elab.async false
set_option linter.all false
set_option maxRecDepth 100000
set_option maxHeartbeats 1000000
/-! Dn25: list(range(n)) -/
namespace Dn
open PySem PySem.Spec PyProof.Rows L2
section
variable {X : Cx} {a : Expr} {p p2 pos pos2 : Pos} {Γ Γ1 : List Slot} {n : Int}
def LrOk (n : Int) : Prop := 0 ≤ n ∧ n ≤ 1000000
theorem rgV_rng (n : Int) : rgV 0 n = (rng 0 n).map V.int := by
  unfold rgV rng
  rw [List.map_map]; rfl
theorem do_listRg (hm : X.mg "list" = none) (hm2 : X.mg "range" = none) (hz : LrOk n) (h : DE X a Γ .int n Γ1) (hc : X.calm = true := by rfl) (hg : Gl X "list" := by rfl) (hg2 : Gl X "range" := by rfl)
    (hs : starEach [a] X.env = (false, eval a X.env) :: starEach [] X.env := by rfl)
    (hs2 : starEach [.Call (.Name "range" p2) [a] [] pos2] X.env = (false, eval (.Call (.Name "range" p2) [a] [] pos2) X.env) :: starEach [] X.env := by rfl) :
    DO X (.Call (.Name "list" p) [.Call (.Name "range" p2) [a] [] pos2] [] pos) Γ (.lst .int (rng 0 n)) Γ1 := fun F G σ H W Q q =>
  wpe_of (pe_listRg hc hg hm (prg_1 hg2 hm2 pe_wp hs) hs2) (h F G σ H W _ fun v G1 H1 s1 W1 r1 => ⟨n, r1, ⟨⟨by decide, by decide, by have := hz.1; omega, by have := hz.2; omega, by have := hz.2; omega⟩, fun l hl => by
    rw [rgV_rng]
    exact q l _ G1 _ s1 (W1.new hl) (W1.tn hl) ⟨_, rfl, repL_ints _⟩⟩⟩)
end
section
variable {X : Cx} {a b : Expr} {Γ Γ1 Γ2 : List Slot} {t : Ty} {xs ys : List t.den}
theorem dc_eqQ {k : Nat} (hr : RoomG k X.A) (hl : Lay (.lst t) xs) (hl2 : Lay (.lst t) ys) [DecidableEq (Ty.lst t).den] (ha : DE X a Γ (.lst t) xs Γ1) (hb : DL X b Γ1 t ys Γ2) (he : (Ty.lst t).canEq = true := by rfl) (hdp : (Ty.lst t).dep ≤ 60 := by decide) : DC X .Eq a b Γ (decide ((xs : (Ty.lst t).den) = ys)) Γ2 := fun F G σ H W Q q =>
  wpc_of (pc_op (op_eqD hr.units) pe_wp pe_wp) (ha F G σ H W _ fun v G1 H1 s1 W1 r1 => hb F G1 σ H1 W1 _ fun a2 vs G2 H2 s2 W2 h1 h2 =>
    ⟨toPy (.lst t) xs, toPy (.lst t) ys, rep_dp W2.gh (.lst t) v xs (rep_mono s2 (.lst t) v xs r1), dpL_list W2.gh h1 h2, shaped_of hl hdp, shaped_of hl2 hdp, q _ G2 H2 (s1.trans s2) W2 (by rw [eqv_dec he]; rfl)⟩)
theorem dc_neQ {k : Nat} (hr : RoomG k X.A) (hl : Lay (.lst t) xs) (hl2 : Lay (.lst t) ys) [DecidableEq (Ty.lst t).den] (ha : DE X a Γ (.lst t) xs Γ1) (hb : DL X b Γ1 t ys Γ2) (he : (Ty.lst t).canEq = true := by rfl) (hdp : (Ty.lst t).dep ≤ 60 := by decide) : DC X .NotEq a b Γ (!decide ((xs : (Ty.lst t).den) = ys)) Γ2 := fun F G σ H W Q q =>
  wpc_of (pc_op (op_neD hr.units) pe_wp pe_wp) (ha F G σ H W _ fun v G1 H1 s1 W1 r1 => hb F G1 σ H1 W1 _ fun a2 vs G2 H2 s2 W2 h1 h2 =>
    ⟨toPy (.lst t) xs, toPy (.lst t) ys, rep_dp W2.gh (.lst t) v xs (rep_mono s2 (.lst t) v xs r1), dpL_list W2.gh h1 h2, shaped_of hl hdp, shaped_of hl2 hdp, q _ G2 H2 (s1.trans s2) W2 (by rw [eqv_dec he]; rfl)⟩)
end
end Dn

set_option Elab.async false
set_option linter.all false
set_option maxRecDepth 100000
set_option maxHeartbeats 1000000
/-! Dn26: sorted(a tuple) -/
namespace PySem.W
open PySem PySem.Calls PyProof.Rows
section
variable {prog : Program} {w : World} {A : Around} {E : Value → Shared → Prop} {s : Shared}
theorem collect_tup {l : Addr} {vs : List Value} {Q : List Value → Shared → Prop} (hl : IsTup s.heap l vs.toArray)
    (h : Q vs { s with heap := (s.heap.push (seqObj "list" #[] 0)).update s.heap.objs.size (Obj.mapSeq (· ++ vs.toArray)) }) (hsz : vs.length ≤ sizeLine := by size_fits) :
    wpAny (model prog w) A (collect (.ref l)) Q E s := by
  obtain ⟨o, ho, hc, n, hd⟩ := id hl
  unfold collect
  refine wpAny_bind (wpAny_runValue (codeAny_builtin entry_proto_collect' ?_))
  show wpAny _ _ (do again (.builtin "list.__iadd__" ⟨[← newList [], .ref l], []⟩)) _ _ s
  refine wpAny_bind (wpAny_newList (wpAny_pure ⟨Code.quiet_builtin _ (by decide +kernel), codeAny_builtin entry_list_iadd' ?_⟩))
  show wpAny _ _ (Builtin.List.listExtendWith (.ref s.heap.objs.size) (.ref l) (.ref s.heap.objs.size)) _ _ { s with heap := s.heap.push (seqObj "list" #[] 0) }
  unfold Builtin.List.listExtendWith
  have ho' : (s.heap.push (seqObj "list" #[] 0)).get? l = some o := Heap.get?_push_of_some _ ho
  refine wpAny_bind (wpAny_typeOf (T := "tuple") ⟨o, ho', hc⟩ ?_)
  have ht : (Value.type "tuple" == Value.type "tuple") = true := by rfl
  rw [if_pos (by rw [ht]; simp)]
  refine wpAny_bind (listItems_at ho' hd ?_)
  refine wpAny_bind (listItems_at (xs := #[]) (n := 0) (Heap.get?_push_size _ rfl) rfl ?_)
  rw [if_neg (by simp)]
  refine wpAny_bind (listUpdate_at (xs := #[]) (n := 0) (Heap.get?_push_size _ rfl) rfl ?_ (Nat.zero_le _) (by show (#[] ++ vs.toArray).size ≤ sizeLine + 1; simp only [Array.size_append, List.size_toArray, List.length_nil]; omega))
  refine wpAny_pure ?_
  show wpAny (model prog w) A (do
      let o ← load s.heap.objs.size
      match o.data with
      | .seq xs _ => pure xs.toList
      | _ => unsupported "internal:collect") Q E { s with heap := (s.heap.push (seqObj "list" #[] 0)).update s.heap.objs.size (Obj.mapSeq (· ++ vs.toArray)) }
  refine wpAny_bind (wpAny_load (get?_update_seq (Heap.get?_push_size _ rfl) _) ?_)
  show wpAny _ _ (pure ((#[] : Array Value) ++ vs.toArray).toList) Q E _
  rw [show ((#[] : Array Value) ++ vs.toArray).toList = vs by simp]
  exact wpAny_pure h
variable {κ : PyProof.Rows.KeyKind}
theorem sorted_of_sortT {l : Addr} {vs : List Value} {kw : List (Str × Value)} {Q : Value → Shared → Prop} (hl : IsTup s.heap l vs.toArray) (hL : vs.length ≤ sizeLine) (ha1 : argsOk "sorted" ⟨[.ref l], kw⟩) (ha2 : ∀ x, argsOk "list.sort" ⟨[.ref x], kw⟩)
    (body : ∀ E' : Value → Shared → Prop, wpAny (model prog w) A.in1.in1 (Builtin.«list.sort» ⟨[.ref (s.heap.objs.size + 1)], kw⟩) (fun f s' => f = .done (.ret .none) ∧ Q (.ref (s.heap.objs.size + 1)) s') E' { s with heap := copyHeap s.heap vs }) :
    wpAny (model prog w) A (call (.builtin "sorted") [.ref l] kw) Q E s := by
  refine call_function_entry_kw kind_sorted plain_sorted entry_sorted ha1 ?_
  unfold Builtin.«sorted»
  refine wpAny_bind (m := checkCount "sorted" 1 1 _) (wpAny_pure ?_)
  refine wpAny_bind (collect_tup hl ?_ hL)
  refine wpAny_bind (wpAny_newList ?_ hL)
  have hsz : ((s.heap.push (seqObj "list" #[] 0)).update s.heap.objs.size (Obj.mapSeq (· ++ vs.toArray))).objs.size = s.heap.objs.size + 1 := by
    rw [Heap.size_update, size_push']
  show wpAny _ _ _ _ _ { s with heap := copyHeap s.heap vs }
  rw [hsz]
  refine wpAny_bind (wpAny_holding (wpAny_call_entry_kw slot_list_sort ⟨_, copyHeap_at s.heap vs, rfl⟩ entry_list_sort ?body (ha2 _)))
  case body =>
    show wpAny (model prog w) A.in1.in1 (Builtin.«list.sort» ⟨[.ref (s.heap.objs.size + 1)], kw⟩) _ _ _
    refine wpAny_mono (body _) (fun f s' hf => ?_) fun _ _ e => e
    obtain ⟨rfl, hq⟩ := hf
    exact ⟨_, rfl, wpAny_pure ⟨_, rfl, hq⟩⟩

/-- sorted(xs): a new list, THE sorted list -/
theorem sorted_valsT {l : Addr} {vs : List Value} {Q : Value → Shared → Prop} (hl : IsTup s.heap l vs.toArray) (S : SortsAt prog w A.in1.in1 { s with heap := sortingHeap (copyHeap s.heap vs) (s.heap.objs.size + 1) vs } κ vs) (hL : vs.length ≤ sizeLine)
    (h : Q (.ref (s.heap.objs.size + 1)) { s with heap := sortedAll s.heap vs (sortVals κ false vs vs).toArray }) : wpAny (model prog w) A (call (.builtin "sorted") [.ref l]) Q E s :=
  sorted_of_sortT hl hL (args_sorted1 _) (fun _ => args_list_sort _) fun _ => list_sort_vals (s := { s with heap := copyHeap s.heap vs }) (copyHeap_at s.heap vs) S hL ⟨rfl, h⟩
variable {β : Type} {vs : List Value} {bs : List β} {enc : β → PyData} {R : Value → β → Prop}
theorem sorted_dataT {l : Addr} {Q : Value → Shared → Prop} (hl : IsTup s.heap l vs.toArray) (e : EachIs R vs bs) (er : EachIs (fun v b => ∃ as, Reads s.heap v (enc b) as) vs bs) (hal : AllAlike (bs.map enc)) (hk : Sortable (bs.map enc)) (hL : bs.length ≤ sizeLine)
    (hu : ∀ b, b ∈ bs → A.units + 2 + (enc b).depth < cLine) (h : ∀ out, out.length = bs.length → EachIs R out (bs.mergeSort (dataLe false enc)) → Q (.ref (s.heap.objs.size + 1)) { s with heap := sortedAll s.heap vs (List.toArray out) }) :
    wpAny (model prog w) A (call (.builtin "sorted") [.ref l]) Q E s := by
  have er' : EachIs (fun v b => ∃ as, Reads (sortingHeap (copyHeap s.heap vs) (s.heap.objs.size + 1) vs) v (enc b) as) vs bs := er.mono fun _ _ ⟨as, r⟩ => ⟨as, PyProof.Rows.Reads.keeps (fun _ _ => sorting_copy_old) r⟩
  exact sorted_valsT hl (SortsAt.data (s := { s with heap := sortingHeap (copyHeap s.heap vs) (s.heap.objs.size + 1) vs }) (each_map (R := fun v d => ∃ as, Reads (sortingHeap (copyHeap s.heap vs) (s.heap.objs.size + 1) vs) v d as) enc er') hal hk (bound_map hu)) (by rw [e.length]; exact hL)
    (h _ (by rw [sortVals_length false rfl]; exact e.length) (sortVals_data false e er' hal))
end
end PySem.W
namespace Dn
open PySem PySem.Spec PyProof.Rows L2
section
variable {X : Cx} {e : Expr} {pos p : Pos} {Γ Γ1 : List Slot} {t : Ty} {xs : List t.den}
def rSortU (K : PySem.W.Frag) (t : Ty) : List V → Hp → VK → Prop := fun vs H Q => ∃ (a : Addr) (us : List V) (G : Hp) (xs : List t.den), vs = [V.ref a] ∧ SqT K H a us ∧ Same G H ∧ RepL K t G us xs ∧ Sz xs.length ∧
  ∀ (ws : List V) (p : Addr), RepL K t G ws (sortT t xs) → H p = none → Q (.ref p) (upd H p (.lst ws))
open PySem.W in
theorem cr_sortU {k : Nat} (hr : RoomG k X.A) (hc : t.canSort = true) (hd : t.dep ≤ 60) : CallR X (.builtin "sorted") (rSortU X.K t) := by
  intro pins s σ H vs us Q I r h
  obtain ⟨a, vs1, G, xs, rfl, hs, sg, rep, hz, q⟩ := h
  obtain ⟨its, rv, hl, _⟩ := I.tuple hs
  rw [Vals.ref1 r]
  have ee := each_of rep rv
  have hb := canLt_of hc
  refine sorted_dataT (vs := its) (R := fun u x => ∃ v, RelV v u ∧ Rep X.K t G v x) (enc := toPy t) (bs := xs) hl ee (ee.mono fun u x ⟨v, h1, h2⟩ => Dp.reads I _ v u (rep_dp sg t v x h2) h1) (AllAlike.of (alike_of t hb)) (sortable hc xs) hz.le
    (fun b _ => by
      have h1 := hr.units
      have h2 := dep_le t b
      omega) fun out hlen ho => ?_
  rw [le_data hb] at ho
  obtain ⟨ws, h1, h2⟩ := each_back ho
  obtain ⟨ep, he'⟩ := PyProof.Rows.sortedAll_at s.heap its (List.toArray out)
  have hwl : ws.length ≤ sizeLine := by
    have e1 := pair_len h1
    rw [e1, List.length_mergeSort]; exact hz.le
  exact ⟨.ref _, upd H (s.heap.objs.size + 1) (.lst ws), I.laid (t' := s.toks) (fun _ _ => PyProof.Rows.sortedAll_old) (Nat.le_succ _) ⟨hwl, out, ep, h2, he'⟩, rfl, q ws _ h1 (I.hok.fresh (Nat.le_succ _))⟩
theorem do_sortedU {k : Nat} (hr : RoomG k X.A) (hm : X.mg "sorted" = none) (hz : Sz xs.length) (h : DE X e Γ (.tup t) xs Γ1) (hc : t.canSort = true := by rfl) (hd : t.dep ≤ 60 := by decide) (hg : Gl X "sorted" := by rfl) (hs : starEach [e] X.env = (false, eval e X.env) :: starEach [] X.env := by rfl) (hpl : (backTo pos (starEach [] X.env)).any (·.1) = false := by rfl) : DO X (.Call (.Name "sorted" p) [e] [] pos) Γ (.lst t (sortT t xs)) Γ1 := fun F G σ H W Q q =>
  wpe_of (pe_callB (cr_sortU hr hc hd) hg hm (by decide +kernel) pa_wp (by decide) (by decide) hs hpl) (wpa_one hs (h F G σ H W _ fun v G1 H1 s1 W1 r1 => by
    obtain ⟨a, vs, rfl, h1, h2⟩ := r1
    exact ⟨a, vs, G1, xs, rfl, sqt_mono W1.gh h1.t, W1.gh, h2, hz, fun ws p hw hp => q p _ G1 _ s1 (W1.new hp) (W1.tn hp) ⟨ws, rfl, hw⟩⟩))
end
end Dn

set_option Elab.async false
set_option linter.all false
set_option maxRecDepth 100000
set_option maxHeartbeats 1000000
/-! Dn27: an int or a tuple -/
namespace Dn
open PySem PySem.Spec PyProof.Rows L2
section
variable {X : Cx} {e : Expr} {Γ Γ1 : List Slot} {t : Ty}
theorem de_iuI {i : Int} (t : Ty) (h : DE X e Γ .int i Γ1) : DE X e Γ (.iu t) (.inl i) Γ1 := fun F G σ H W Q q => h F G σ H W Q fun v G' H' s W' r => q v G' H' s W' r
theorem de_iuT {xs : List t.den} (h : DE X e Γ (.tup t) xs Γ1) : DE X e Γ (.iu t) (.inr xs) Γ1 := fun F G σ H W Q q => h F G σ H W Q fun v G' H' s W' r => q v G' H' s W' r
end
section
variable {X : Cx} {ρ : Type} {R : RI ρ} {a b e : Expr} {es : List Expr} {pos p cpos apos npos : Pos} {Γ Γ1 Γ2 Γ3 : List Slot} {t u : Ty} {xs ys : List t.den} {n : Str}
/-- n.insert(a, e) -/
theorem ds_insert (i : Nat) {pin : Bool} {x : t.den} {k : Int} (hz : Sz xs.length) (hk : 0 ≤ k ∧ k < 2 ^ 63) (ha : DE X a Γ .int k Γ1) (he : DE X e Γ1 t x Γ2) (h : Γ2[i]? = some (.ow pin (.lst t xs)) := by rfl) (h0 : (Γ[i]?.map Slot.isLst) = some true := by rfl) (hN : X.N[i]? = some n := by rfl) (hv : Vis X.env.scope n := by first | exact Or.inl rfl | exact Or.inr (Or.inl rfl) | exact Or.inr (Or.inr rfl))
    (hd : (n == ("__debug__" : Str)) = false := by decide) (hcd : (n == ("__classdict__" : Str)) = false := by decide) (hbase : attributeBase (.Name n npos) "insert" X.env (eval (.Name n npos) X.env) = eval (.Name n npos) X.env := by rfl)
    (hfew : ((backTo cpos (starEach [a, e] X.env)).all (fun x => !x.1) && (backToKw cpos (keywordEach [] X.env)).all (fun x => x.1.isSome) && decide (([a, e] : List Expr).length + ([] : List Keyword).length + (if ([] : List Keyword).isEmpty then 0 else 1) < 30)) = true := by rfl)
    (hline : (apos.endLine == cpos.line) = true := by rfl) (hs : starEach [a, e] X.env = (false, eval a X.env) :: starEach [e] X.env := by rfl) (hs2 : starEach [e] X.env = (false, eval e X.env) :: starEach [] X.env := by rfl) (hpl : (backTo cpos (starEach [e] X.env)).any (·.1) = false := by rfl) (hsw : swapsWith (.Call (.Attribute (.Name n npos) "insert" apos) [a, e] [] cpos) none pos.line X.env = pure false := by rfl) :
    DS X R (.Expr (.Call (.Attribute (.Name n npos) "insert" apos) [a, e] [] cpos) pos) Γ (.nx (Γ2.set i (.ow pin (.lst t (xs.take k.toNat ++ [x] ++ xs.drop k.toNat))))) := fun F G σ H W D q => by
  obtain ⟨p, hp⟩ := W.owName h0
  obtain ⟨vs0, hvs0⟩ := W.tyL h0 hp
  refine wps_of (ps_expr (pe_bm PySem.F.plainAttrs_list PySem.F.slot_list_insert PySem.F.type_list_insert mt_insert (pe_var hN hv hd hcd) (pa_cons pe_wp (pa_cons pe_wp pa_nil hs2) hs) hbase hfew hline hs hpl) hsw) ⟨.ref p, hp, .inl ⟨rfl, vs0, .inl (.inl hvs0)⟩, ha F G σ H W _ fun w G1 H1 s1 W1 r1 => he F G1 σ H1 W1 _ fun v G2 H2 s2 W2 r2 => ?_⟩
  obtain ⟨p', vs, h1, h2, h3⟩ := W2.owned h
  rw [hp] at h1; cases h1
  exact ⟨p, vs, k, v, rfl, by rw [show w = _ from r1], h2, by rw [pair_len h3]; exact hz.lt, hk.1, hk.2, q σ G2 _ (s1.trans s2) (W2.mutate h hp (pair_app (pair_app (pair_take _ h3) (.cons r2 .nil)) (pair_drop _ h3)))⟩
/-- n[lo:hi] of an owned list, which stays -/
theorem do_slV (i : Nat) {pin : Bool} {l h : Option Expr} {lo hi : Option Int} {p2 : Pos} (hl : DP X l Γ lo Γ2) (hh : DP X h Γ2 hi Γ3) (hs : Γ3[i]? = some (.ow pin (.lst t xs)) := by rfl) (h0 : (Γ[i]?.map Slot.isLst) = some true := by rfl) (hN : X.N[i]? = some n := by rfl) (hv : Vis X.env.scope n := by first | exact Or.inl rfl | exact Or.inr (Or.inl rfl) | exact Or.inr (Or.inr rfl))
    (hd : (n == ("__debug__" : Str)) = false := by decide) (hcd : (n == ("__classdict__" : Str)) = false := by decide) : DO X (.Subscript (.Name n npos) (.Slice l h none p2) pos) Γ (.lst t (cut xs lo hi)) Γ3 := fun F G σ H W Q q => by
  obtain ⟨a, ha⟩ := W.owName h0
  refine wpe_of (pe_slice sl_list (pe_var hN hv hd hcd) po_wp po_wp) ⟨.ref a, ha, hl F G σ H W _ fun G2 H2 s2 W2 => hh F G2 σ H2 W2 _ fun G3 H3 s3 W3 => ?_⟩
  obtain ⟨p', ws, e1, e2, e3⟩ := W3.owned hs
  rw [ha] at e1; cases e1
  exact ⟨a, ws, rfl, SqL.of e2, fun p hp => q p _ G3 _ (s2.trans s3) (W3.new hp) (W3.tn hp) ⟨_, rfl, rep_cut e3⟩⟩
end
end Dn

set_option Elab.async false
set_option linter.all false
set_option maxRecDepth 100000
set_option maxHeartbeats 1000000
/-! Dn28: zip of a text and a tuple -/
namespace Dn
open PySem PySem.Spec PyProof.Rows L2 TL
/-- a text's signs beside a tuple's items, in new pairs -/
def ItzS (K : PySem.W.Frag) (x : Str) (b : Addr) : It :=
  ⟨fun i H => ∃ (ys : List V) (y : V), i < x.cps.size ∧ SqT K H b ys ∧ ys[i]? = some y,
    fun i H v H' => ∃ (T : Addr) (c : Nat) (y : V), v = .ref T ∧ H T = none ∧ H' = upd H T (.tup [.str ⟨#[c]⟩, y]) ∧ x.cps[i]? = some c ∧ ∀ ys, SqT K H b ys → ys[i]? = some y,
    fun i H => ∃ ys : List V, SqT K H b ys ∧ i ≤ x.cps.size ∧ i ≤ ys.length ∧ (i = x.cps.size ∨ i = ys.length)⟩
theorem turn_zipS {P : Program} {w : World} {K : PySem.W.Frag} {elts : List Expr} {kk : Nat} {tpos : Pos} {b z TI TO i1 i2 : Addr} {x : Str} {t : Tok} (S : ZipSep2 z TI TO i1 i2 [i1] [i2, b]) (bi2 : b ≠ i2) :
    Turn P w K (.Tuple elts kk tpos) (ItzS K x b) [z, TI, TO, i1, i2] z (fun i h => IsZip h z TI TO .none ∧ IsPair h TI (.ref i1) (.ref i2) ∧ (∃ x y, IsPair h TO x y) ∧ h.IsStrIter i1 (strIterType x) x t i ∧ h.IsTupleIter i2 b i) where
  mem := by simp
  obj := fun i h st c hc => by
    obtain ⟨hz, hTI, ⟨x, y, hTO⟩, ⟨o1, e1, _, d1⟩, ⟨o2, e2, _, d2⟩⟩ := st
    have e' : c = z ∨ c = TI ∨ c = TO ∨ c = i1 ∨ c = i2 := by simpa using hc
    rcases e' with q | q | q | q | q
    · rw [q]; exact ⟨_, hz, fun v q => nomatch q⟩
    · rw [q]; exact ⟨_, hTI, fun v q => nomatch q⟩
    · rw [q]; exact ⟨_, hTO, fun v q => nomatch q⟩
    · rw [q]; exact ⟨o1, e1, fun v q => by rw [d1] at q; cases q⟩
    · rw [q]; exact ⟨o2, e2, fun v q => by rw [d2] at q; cases q⟩
  keep := fun i h h' st k => by
    obtain ⟨hz, hTI, ⟨x, y, hTO⟩, ⟨o, ho, r⟩, h2⟩ := st
    exact ⟨k z (by simp) _ hz, k TI (by simp) _ hTI, ⟨x, y, k TO (by simp) _ hTO⟩, ⟨o, k i1 (by simp) o ho, r⟩, h2.at fun o q => k i2 (by simp) o q⟩
  item := by
    intro X hP hw hK hc i pins s σ H E I hf st hg
    subst hP hw hK
    obtain ⟨hz, hTI, ⟨x0, y0, hTO⟩, h1, h2⟩ := st
    obtain ⟨ys, y, hx, hqy, hy⟩ := hg
    obtain ⟨its2, rv2, p2, _⟩ := I.tuple hqy
    obtain ⟨u2, hu2, ru2⟩ := rv2.get hy
    have hh : X.A.in1.handled = none := I.ok.hd hc
    have hzl : z < s.heap.objs.size := Heap.lt_size hz
    have p2' : s.heap.IsTuple b its2.toArray := p2
    have hi2 : i < its2.toArray.size := by
      have := (List.getElem?_eq_some_iff.mp hu2).1
      simpa using this
    refine wpAny_pyNext_zipD2_item S (Draws.text hh i1 x t) (Draws.tuple hh i2 b bi2 its2.toArray) hz hTI hTO h1 ⟨h2, p2'⟩ hx hi2 fun x1 x2 h' tk y1 y2 z' TO' h1' h2' hT hsz hk => ?_
    obtain ⟨c, u, hc1, rfl⟩ := y1
    have e2 : x2 = u2 := by
      have y2 : its2.toArray[i]? = some x2 := y2
      rw [List.getElem?_toArray, hu2] at y2
      exact (Option.some.inj y2).symm
    subst e2
    refine ⟨_, rfl, wpAny_letOwnedTupleGo_zip (s := { s with heap := h', toks := tk }) z' fun h'' z'' sb => ?_⟩
    have hT2 : h''.get? s.heap.objs.size = some { cls := .type "tuple", data := .seq #[.str ⟨#[c]⟩ u, x2] } := (sb.2 _ (Nat.ne_of_gt hzl)).trans hT
    have new : ObjOk X.prog X.w (upd H s.heap.objs.size (.tup [.str ⟨#[c]⟩, y])) h'' s.heap.objs.size (.tup [.str ⟨#[c]⟩, y]) :=
      ⟨by show 2 ≤ sizeLine; decide, [.str ⟨#[c]⟩ u, x2], .cons ⟨u, rfl⟩ (.cons ru2 .nil), ⟨_, hT2, rfl, _, rfl⟩⟩
    have I1 : Inv X pins σ (upd H s.heap.objs.size (.tup [.str ⟨#[c]⟩, y])) { s with heap := h'', toks := tk } :=
      I.turnedNew (t' := tk) (ch := [z, TI, TO, i1, i2]) (fun c o hb q => (sb.2 c (fun q' => hb (by simp [q']))).trans (hk c o (fun q' => hb (by simp [q'])) (fun q' => hb (by simp [q'])) (fun q' => hb (by simp [q'])) (fun q' => hb (by simp [q'])) q)) hf (Nat.le_refl _) new
    refine ⟨.ref s.heap.objs.size, _, I1, rfl, ⟨_, c, y, rfl, I.hok.fresh (Nat.le_refl _), rfl, hc1, fun l hl => by rw [I.tuple_inj hl hqy]; exact hy⟩, ⟨z'', ?_, ⟨.str ⟨#[c]⟩ u, x2, ?_⟩, ?_, ?_⟩, fun c hcm => ?_⟩
    · exact (sb.2 _ S.TIz).trans (hk _ _ S.TIz S.TITO S.TIi1 S.TIi2 hTI)
    · exact (sb.2 _ S.TOz).trans TO'
    · obtain ⟨o, ho, r⟩ := h1'
      exact ⟨o, (sb.2 _ (Ne.symm S.zi1)).trans ho, r⟩
    · exact h2'.1.at fun o q => (sb.2 _ (Ne.symm S.zi2)).trans q
    · have hlt : c < s.heap.objs.size := by
        have e' : c = z ∨ c = TI ∨ c = TO ∨ c = i1 ∨ c = i2 := by simpa using hcm
        rcases e' with q | q | q | q | q
        · rw [q]; exact hzl
        · rw [q]; exact Heap.lt_size hTI
        · rw [q]; exact Heap.lt_size hTO
        · rw [q]; obtain ⟨_, e1, _⟩ := h1; exact Heap.lt_size e1
        · rw [q]; obtain ⟨_, e2, _⟩ := h2; exact Heap.lt_size e2
      rw [upd_ne (Nat.ne_of_lt hlt)]
      exact (hf c hcm).1
  done := by
    intro X hP hw hK hc i pins s σ H E I hf st hg
    subst hP hw hK
    obtain ⟨hz, hTI, ⟨x0, y0, hTO⟩, h1, h2⟩ := st
    obtain ⟨ys, hqy, l1, l2, hend⟩ := hg
    obtain ⟨its2, rv2, p2, _⟩ := I.tuple hqy
    have hh : X.A.in1.handled = none := I.ok.hd hc
    have len := rv2.length
    have p2' : s.heap.IsTuple b its2.toArray := p2
    exact wpAny_pyNext_zipD2_end S (Draws.text hh i1 x t) (Draws.tuple hh i2 b bi2 its2.toArray) hz hTI hTO h1 ⟨h2, p2'⟩ l1 (by simp; omega) (hend.imp id fun e => by simp; omega) fun h' tk hk => ⟨rfl, I.turnedL (t' := tk) (ch := [z, TI, TO, i1, i2]) (fun c o hb q =>
      hk c o (fun q' => hb (by simp [q'])) (fun q' => hb (by simp [q'])) (fun q' => hb (by simp [q'])) (fun q' => hb (by simp [q'])) q) hf⟩
  self := fun A i s Q E st h => wpAny_pyIter_zip st.1 h
def iZipS (K : PySem.W.Frag) (ta : TA) : TI := fun σ H R => ta σ H fun vs H1 => ∃ x b ys, vs = [.str x, .ref b] ∧ SqT K H1 b ys ∧ R (ItzS K x b) H1
theorem nin1 {m a : Nat} (h : m ≠ a) : m ∉ [a] := fun c => h (List.mem_singleton.mp c)
theorem nin2 {m a b : Nat} (h : m ≠ a) (k : m ≠ b) : m ∉ [a, b] := fun c => (List.mem_cons.mp c).elim h fun d => k (List.mem_singleton.mp d)
theorem sep_nat {n b : Nat} (hb : b < n) : ZipSep2 (n + 4) (n + 2) (n + 3) n (n + 1) [n] [n + 1, b] where
  TIz := by show (n + 2 : Nat) ≠ n + 4; omega
  TOz := by show (n + 3 : Nat) ≠ n + 4; omega
  TITO := by show (n + 2 : Nat) ≠ n + 3; omega
  TIi1 := by show (n + 2 : Nat) ≠ n; omega
  mem1 := List.mem_cons_self ..
  zf1 := nin1 (by omega)
  Tf1 := nin1 (by omega)
  TIi2 := by show (n + 2 : Nat) ≠ n + 1; omega
  mem2 := List.mem_cons_self ..
  zf2 := nin2 (by omega) (by omega)
  Tf2 := nin2 (by omega) (by omega)
  sep1_2 := nin2 (by omega) (by omega)
  sep2_1 := nin1 (by omega)
theorem pi_zipS {X : Cx} {e e2 : Expr} {ta : TA} {p pos tpos : Pos} {elts : List Expr} {kk : Nat} (hg : Gl X "zip") (hm : X.mg "zip" = none) (ha : PA X [e, e2] ta)
    (hs : starEach [e, e2] X.env = (false, eval e X.env) :: starEach [e2] X.env := by rfl) (hpl : (backTo pos (starEach [e2] X.env)).any (·.1) = false := by rfl) :
    PI X (.Tuple elts kk tpos) (.Call (.Name "zip" p) [e, e2] [] pos) (iZipS X.K ta) := by
  refine ⟨fun pins s σ H R I h => ?_⟩
  refine Call_ (ld_blt I hg hm PyProof.Rows.boot_zip (PyProof.Rows.callWith_type1 (thn (ha.run pos pins s σ H _ I h) fun us s1 ⟨vs, H1, I1, r1, q1⟩ => ?_) hs hpl))
  obtain ⟨x, b, ys, ex, hqy, q⟩ := q1
  subst ex
  cases r1 with
  | cons r rr =>
    cases rr with
    | cons r' rr =>
      cases rr
      obtain ⟨t, rfl⟩ := r
      cases r'
      have fresh5 : ∀ c, c ∈ [s1.heap.objs.size + 4, s1.heap.objs.size + 2, s1.heap.objs.size + 3, s1.heap.objs.size, s1.heap.objs.size + 1] → FpOk X pins H1 c := fun c hcm => by
        have e' : c = s1.heap.objs.size + 4 ∨ c = s1.heap.objs.size + 2 ∨ c = s1.heap.objs.size + 3 ∨ c = s1.heap.objs.size ∨ c = s1.heap.objs.size + 1 := by simpa using hcm
        have hle : s1.heap.objs.size ≤ c := by
          rcases e' with z | z | z | z | z
          · rw [z]; exact Nat.le_add_right _ _
          · rw [z]; exact Nat.le_add_right _ _
          · rw [z]; exact Nat.le_add_right _ _
          · rw [z]; exact Nat.le_refl _
          · rw [z]; exact Nat.le_add_right _ _
        exact I1.fpOk hle (I1.hok.fresh hle)
      obtain ⟨its2, rv2, p2, _⟩ := I1.tuple hqy
      have p2' : s1.heap.IsTuple b its2.toArray := p2
      have hb : b < s1.heap.objs.size := by obtain ⟨o2, ho2, _⟩ := id p2; exact Heap.lt_size ho2
      refine zip_begins2 (begins_text x t) (begins_tuple b its2.toArray) trivial p2' fun h' hz hTI hTO g1 g2 hsz hk => wpAny_pyIter_zip hz ?_
      have I2 : Inv X pins σ H1 { s1 with heap := h' } := I1.kept (t' := s1.toks) hk
      have S : ZipSep2 (s1.heap.objs.size + 4) (s1.heap.objs.size + 2) (s1.heap.objs.size + 3) s1.heap.objs.size (s1.heap.objs.size + 1) [s1.heap.objs.size] [s1.heap.objs.size + 1, b] := sep_nat hb
      exact ⟨s1.heap.objs.size + 4, [s1.heap.objs.size + 4, s1.heap.objs.size + 2, s1.heap.objs.size + 3, s1.heap.objs.size, s1.heap.objs.size + 1], _, _, H1, rfl, I2, turn_zipS S (Nat.ne_of_lt (Nat.lt_succ_of_lt hb)), ⟨hz, hTI, ⟨_, _, hTO⟩, ⟨_, g1, rfl, rfl⟩, ⟨_, g2, rfl, rfl⟩⟩, fresh5, q⟩
theorem chars_len {x : List Nat} : (chars x).length = x.length := by simp [chars]
section
variable {X : Cx} {Γ Γ1 Γ2 : List Slot} {a b e tg : Expr} {pos p : Pos} {t u : Ty} {g : TG} {tgs : List Nat}
theorem di_zipS {elts : List Expr} {kk : Nat} {tpos : Pos} {x : List Nat} {ys : List u.den} {B : List Nat × u.den → List Slot → List Slot} (hm : X.mg "zip" = none) (ha : DE X a Γ .str x Γ1) (hb : DE X b Γ1 (.tup u) ys Γ2) (hg : EvG X.K g (.p2 .str u) B tgs) (hgl : Gl X "zip" := by rfl)
    (hs : starEach [a, b] X.env = (false, eval a X.env) :: starEach [b] X.env := by rfl) (hs2 : starEach [b] X.env = (false, eval b X.env) :: starEach [] X.env := by rfl) (hpl : (backTo pos (starEach [b] X.env)).any (·.1) = false := by rfl) :
    DI X (.Tuple elts kk tpos) (.Call (.Name "zip" p) [a, b] [] pos) g Γ (List.zip (chars x) ys) B tgs Γ2 := fun F G σ H W R q =>
  wpi_of (pi_zipS hgl hm (pa_cons pe_wp (pa_cons pe_wp pa_nil hs2) hs) hs hpl) (ha F G σ H W _ fun v G1 H1 s1 W1 r1 => hb F G1 σ H1 W1 _ fun w G2 H2 s2 W2 r2 => by
    obtain ⟨p2, ws, rfl, h3, h4⟩ := r2
    have e2 := pair_len h4
    have ql : ∀ {H' : Hp}, Same G2 H' → SqT X.K H' p2 ws := fun s => (h3.mono s).t
    have cx : (⟨x.toArray⟩ : Str).cps.size = x.length := by show x.toArray.size = _; simp
    have r1 : v = .str ⟨x.toArray⟩ := r1
    subst r1
    refine ⟨⟨x.toArray⟩, p2, ws, rfl, ql W2.gh, q _ G2 H2 (s1.trans s2) W2 ⟨fun i G3 H3 s3 s4 hi => ?_, fun G3 H3 s3 s4 => ⟨ws, ql (s3.trans s4), ?_⟩, fun F i y G3 σ3 H3 Γ3 v H4 Q s3 W3 hy y' k => ?_⟩⟩
    · rw [zip_len, chars_len] at hi
      exact ⟨ws, ws[i]'(by omega), by rw [cx]; omega, ql (s3.trans s4), List.getElem?_eq_getElem (by omega)⟩
    · rw [zip_len, chars_len, cx]; omega
    · obtain ⟨T, c, x2, rfl, nT, rfl, f1, f2⟩ := y'
      obtain ⟨y1, y2⟩ := y
      have f2 := f2 ws (ql (s3.trans W3.gh))
      obtain ⟨g1, g2⟩ := zip_get hy
      have f1 : x[i]? = some c := by simpa using f1
      have g1 : (chars x)[i]? = some y1 := g1
      unfold chars at g1
      rw [List.getElem?_map, f1] at g1
      have g1 : [c] = y1 := Option.some.inj g1
      subst g1
      obtain ⟨v2, e6, e7⟩ := pair_get h4 g2
      rw [f2] at e6; cases e6
      have sm := same_upd (o := .tup [.str ⟨#[c]⟩, x2]) (W3.gn nT)
      exact hg F _ σ3 _ Γ3 (.ref T) ([c], y2) (W3.newG nT) ⟨T, .str ⟨#[c]⟩, x2, rfl, upd_same, rfl, rep_mono (s3.trans sm) u x2 y2 e7⟩ Q fun σ' a' W4 => k _ σ' _ sm a' W4)
/-- isinstance of an owned list -/
theorem de_isiV (i : Nat) {xs : List t.den} {pin : Bool} {n : Str} {T : String} {r : Bool} {v : Str} {p2 p3 : Pos} (hm : X.mg "isinstance" = none) (hmT : X.mg v = none) (hb : bootBuiltins v = some (.type T) := by decide +kernel) (hk : kitB "list" T = some r := by decide +kernel)
    (h : Γ[i]? = some (.ow pin (.lst t xs)) := by rfl) (hN : X.N[i]? = some n := by rfl) (hv : Vis X.env.scope n := by first | exact Or.inl rfl | exact Or.inr (Or.inl rfl) | exact Or.inr (Or.inr rfl))
    (hd : (n == ("__debug__" : Str)) = false := by decide) (hcd : (n == ("__classdict__" : Str)) = false := by decide) (hg : Gl X "isinstance" := by rfl) (hgT : Gl X v := by rfl)
    (hnn : v ≠ "__name__" := by decide) (hdb : (v == ("__debug__" : Str)) = false := by decide)
    (hs : starEach [.Name n p3, .Name v p2] X.env = (false, eval (.Name n p3) X.env) :: starEach [.Name v p2] X.env := by rfl) (hs2 : starEach [.Name v p2] X.env = (false, eval (.Name v p2) X.env) :: starEach [] X.env := by rfl) (hpl : (backTo pos (starEach [.Name v p2] X.env)).any (·.1) = false := by rfl) :
    DE X (.Call (.Name "isinstance" p) [.Name n p3, .Name v p2] [] pos) Γ .bool r Γ := fun F G σ H W Q q => by
  obtain ⟨a, ho, h1, h2, h3, h4, h5, h6⟩ := W.sl i _ h
  obtain ⟨vs, rfl, r1⟩ := h5
  exact wpe_of (pe_callB call_isi hg hm (by decide +kernel) (pa_cons (pe_var hN hv hd hcd) (pa_cons (pe_bltn (v := .ty T) hgT hmT hb rfl hnn hdb) pa_nil hs2) hs) (by decide) (by decide) hs hpl)
    ⟨.ref a, h1, ⟨.ref a, .ty T, .type "list", .type T, r, rfl, .ty T, .base (.lst h4), kit_ty hk, q _ G H (Same.refl G) W rfl⟩⟩
end
end Dn

set_option Elab.async false
set_option linter.all false
set_option maxRecDepth 100000
set_option maxHeartbeats 1000000
/-! Dn29: branches that no run takes -/
namespace Dn
open PySem PySem.Spec PyProof.Rows L2
section
variable {X : Cx} {Γ : List Slot} {ρ : Type} {R : RI ρ} {ss rest : List Stmt} {o : Out ρ} {a b : Bool}
theorem dss_dead {x : ρ} (h : a = b) (hn : a ≠ b := by decide) : DSs X R ss Γ (.rt x) := absurd h hn
theorem cont_dead {x : ρ} (h : a = b) (hn : a ≠ b := by decide) : Cont X R o rest (.rt x) := absurd h hn
end
/-- range(lo, hi, -1) -/
def rngD (lo hi : Int) : List Int := (List.range (lo - hi).toNat).map fun k => lo - (k : Nat)
theorem rngD_len {lo hi : Int} : (rngD lo hi).length = (lo - hi).toNat := by simp [rngD]
theorem rngD_get {lo hi : Int} {i : Nat} {y : Int} (h : (rngD lo hi)[i]? = some y) : y = lo - (i : Int) := by
  unfold rngD at h
  rw [List.getElem?_map] at h
  cases e : (List.range (lo - hi).toNat)[i]? with
  | none => rw [e] at h; cases h
  | some k =>
    rw [e] at h
    have := List.getElem?_eq_some_iff.mp e
    obtain ⟨h1, h2⟩ := this
    rw [List.getElem_range] at h2
    subst h2
    exact (Option.some.inj h).symm
theorem rngD_mem {lo hi y : Int} (h : y ∈ rngD lo hi) : hi < y ∧ y ≤ lo := by
  obtain ⟨i, hi'⟩ := List.getElem?_of_mem h
  have e := rngD_get hi'
  have l := (List.getElem?_eq_some_iff.mp hi').1
  rw [rngD_len] at l
  omega
section
variable {X : Cx} {tg a b c : Expr} {p pos : Pos} {Γ Γ1 Γ2 Γ3 : List Slot} {g : TG} {tgs : List Nat}
theorem di_rangeD {lo hi : Int} {B : Int → List Slot → List Slot} (hm : X.mg "range" = none) (h : RngOk lo ∧ RngOk hi) (ha : DE X a Γ .int lo Γ1) (hb : DE X b Γ1 .int hi Γ2) (hc : DE X c Γ2 .int (-(1 : Int)) Γ3) (hg : EvG X.K g .int B tgs) (hgl : Gl X "range" := by rfl)
    (hs : starEach [a, b, c] X.env = (false, eval a X.env) :: starEach [b, c] X.env := by rfl) (hs2 : starEach [b, c] X.env = (false, eval b X.env) :: starEach [c] X.env := by rfl) (hs3 : starEach [c] X.env = (false, eval c X.env) :: starEach [] X.env := by rfl) (hpl : (backTo pos (starEach [b, c] X.env)).any (·.1) = false := by rfl) :
    DI X tg (.Call (.Name "range" p) [a, b, c] [] pos) g Γ (rngD lo hi) B tgs Γ3 := fun F G σ H W R q =>
  wpi_of (pi_range3 hgl hm (pa_cons pe_wp (pa_cons pe_wp (pa_cons pe_wp pa_nil hs3) hs2) hs) hs hpl) (ha F G σ H W _ fun v G1 H1 s1 W1 r1 => hb F G1 σ H1 W1 _ fun w G2 H2 s2 W2 r2 => hc F G2 σ H2 W2 _ fun u G3 H3 s3 W3 r3 => by
    have r1 : v = .int lo := r1
    have r2 : w = .int hi := r2
    have r3 : u = .int (-(1 : Int)) := r3
    subst r1 r2 r3
    obtain ⟨⟨h1, h2⟩, h3, h4⟩ := h
    refine ⟨lo, hi, -1, (lo - hi).toNat, rfl, RgC.neg (by omega) (by omega) (by omega) (by omega), q _ G3 H3 (s1.trans (s2.trans s3)) W3 ⟨fun i G4 H4 _ _ h => ?_, fun G4 H4 _ _ => ?_, fun F i y G4 σ4 H4 Γ4 v H5 Q s4 W4 hy y' k => ?_⟩⟩
    · rw [rngD_len] at h; exact h
    · rw [rngD_len]; exact Nat.le_refl _
    · obtain ⟨e1, e2⟩ := y'
      subst e1
      have e := rngD_get hy
      subst e
      have e2 : v = .int (lo - (i : Int)) := by rw [e2]; congr 1; omega
      subst e2
      exact hg F G4 σ4 _ Γ4 _ _ W4 rfl Q fun σ' a' W5 => k G4 σ' _ (Same.refl G4) a' W5)
end
theorem list_extend_list_list_g (l : Addr) (items : Array Value) (n : Nat) (b : Addr) (items2 : Array Value) (n2 : Nat) (dx : Option Addr) (sx : Array (Option Value)) (hs0 : ¬(!items.isEmpty && Builtin.List.listTooLong (items.size + items2.size)) = true) (hs1 : items.size ≤ sizeLine) (hs2 : items.size + items2.size ≤ sizeLine + 1) :
    Meets (Builtin.«list.extend» ⟨[.ref l, .ref b], []⟩) (fun _ R s => s.heap.get? l = some { cls := .type "list", dict := none, data := .seq items n, slots := #[] } ∧ s.heap.get? b = some { cls := .type "list", dict := dx, data := .seq items2 n2, slots := sx } ∧ R (.ok (.ret Value.none)) { s with heap := s.heap.update l (Obj.mapSeq fun x => x ++ items2), toks := s.toks }) :=
  .of_wp fun prog w A R s h => by
    obtain ⟨hp, g, d, tk, os⟩ := s
    obtain ⟨hl, hb, k⟩ := h
    have f5 := PySem.AutoSeq1.sub_list_tuple
    have f4 := PySem.AutoSeq1.sub_tuple_list
    have f3 := PySem.AutoSeq1.sub_list_list
    have f2 := PySem.AutoSeq1.sub_tuple_tuple
    have f1 := PySem.AutoSeq1.idx_int
    have hz2 : (items ++ items2).size ≤ sizeLine + 1 := by
      rw [Array.size_append]
      exact hs2
    wp_walk using (wpAny_updateSeq hl rfl (hz := hs1) (_hz' := hz2)), PySem.AutoSeq1.wpAny_loadPart' hb, PySem.AutoSeq1.wpAny_loadPart' hl
    exact ⟨_, rfl, k⟩
/-- append many: xs.extend(a frozen list) -/
def rExtF (K : PySem.W.Frag) : V → List V → Hp → VK → Prop := fun x vs H Q => ∃ l b xs zs, x = .ref l ∧ vs = [.ref b] ∧ H l = some (.lst xs) ∧ SqL K H b zs ∧ xs.length + zs.length ≤ sizeLine ∧ Q .non (upd H l (.lst (xs ++ zs)))
theorem mt_extF {X : Cx} : MtM X "list.extend" (rExtF X.K) := by
  intro pins s σ H x vs v us Q I rx rv h
  obtain ⟨l, b, xs, zs, rfl, rfl, hH, hB, hz, q⟩ := h
  cases rx
  obtain ⟨u, rfl, ru⟩ := rv.one
  cases ru
  obtain ⟨z, its, n, r, hl, e⟩ := I.lstM hH
  obtain ⟨its2, r2, ht, hz2⟩ := I.list hB
  obtain ⟨o, e2, hc, n2, hd⟩ := ht.isList
  obtain ⟨oc, dx, od, sx⟩ := o
  cases hc
  cases hd
  have hl2 := r2.length
  have h1 : its.toArray.size + its2.toArray.size ≤ sizeLine := by rw [List.size_toArray, List.size_toArray]; omega
  have h2 : ¬ (!its.toArray.isEmpty && Builtin.List.listTooLong (its.toArray.size + its2.toArray.size)) = true := by
    rw [notLongL h1, Bool.and_false]
    simp
  refine call_meets F.slot_list_extend ⟨_, e, rfl⟩ F.entry_list_extend (F.args_list_extend_2 _ _)
    (list_extend_list_list_g l its.toArray n b its2.toArray n2 dx sx h2 (by rw [List.size_toArray]; omega) (by omega)) ⟨e, e2, ?_⟩
  refine ⟨.non, _, I.lset (its' := its ++ its2) hH e (by simp) (r.append r2) ?_, rfl, q⟩
  rw [List.length_append]
  omega
section
variable {X : Cx} {ρ : Type} {R : RI ρ} {a b e : Expr} {es : List Expr} {pos p cpos apos npos : Pos} {Γ Γ1 Γ2 Γ3 : List Slot} {t u : Ty} {xs ys : List t.den} {n : Str}
theorem ds_extF (i : Nat) {pin : Bool} (hz : Sz (xs.length + ys.length)) (he : DL X e Γ t ys Γ1) (h : Γ1[i]? = some (.ow pin (.lst t xs)) := by rfl) (h0 : (Γ[i]?.map Slot.isLst) = some true := by rfl) (hN : X.N[i]? = some n := by rfl) (hv : Vis X.env.scope n := by first | exact Or.inl rfl | exact Or.inr (Or.inl rfl) | exact Or.inr (Or.inr rfl))
    (hd : (n == ("__debug__" : Str)) = false := by decide) (hcd : (n == ("__classdict__" : Str)) = false := by decide) (hbase : attributeBase (.Name n npos) "extend" X.env (eval (.Name n npos) X.env) = eval (.Name n npos) X.env := by rfl)
    (hfew : ((backTo cpos (starEach [e] X.env)).all (fun x => !x.1) && (backToKw cpos (keywordEach [] X.env)).all (fun x => x.1.isSome) && decide (([e] : List Expr).length + ([] : List Keyword).length + (if ([] : List Keyword).isEmpty then 0 else 1) < 30)) = true := by rfl)
    (hline : (apos.endLine == cpos.line) = true := by rfl) (hs : starEach [e] X.env = (false, eval e X.env) :: starEach [] X.env := by rfl) (hpl : (backTo cpos (starEach [] X.env)).any (·.1) = false := by rfl) (hsw : swapsWith (.Call (.Attribute (.Name n npos) "extend" apos) [e] [] cpos) none pos.line X.env = pure false := by rfl) :
    DS X R (.Expr (.Call (.Attribute (.Name n npos) "extend" apos) [e] [] cpos) pos) Γ (.nx (Γ1.set i (.ow pin (.lst t (xs ++ ys))))) := fun F G σ H W D q => by
  obtain ⟨p, hp⟩ := W.owName h0
  obtain ⟨vs0, hvs0⟩ := W.tyL h0 hp
  refine wps_of (ps_expr (pe_bm PySem.F.plainAttrs_list PySem.F.slot_list_extend PySem.F.type_list_extend mt_extF (pe_var hN hv hd hcd) pa_wp hbase hfew hline hs hpl) hsw) ⟨.ref p, hp, .inl ⟨rfl, vs0, .inl (.inl hvs0)⟩, wpa_one hs (he F G σ H W _ fun p2 ws G1 H1 s1 W1 hU r => ?_)⟩
  obtain ⟨p', vs, h1, h2, h3⟩ := W1.owned h
  rw [hp] at h1; cases h1
  exact ⟨p, p2, vs, ws, rfl, rfl, h2, hU, by rw [pair_len h3, pair_len r]; exact hz.le, q σ G1 _ s1 (W1.mutate h hp (pair_app h3 r))⟩
end
end Dn

set_option Elab.async false
set_option linter.all false
set_option maxRecDepth 100000
set_option maxHeartbeats 1000000
/-! Dn30: a text or an int -/
namespace Dn
open PySem PySem.Spec PyProof.Rows L2
section
variable {X : Cx} {e : Expr} {pos p : Pos} {Γ Γ1 : List Slot}
theorem de_siS {x : List Nat} (h : DE X e Γ .str x Γ1) : DE X e Γ .si (.inl x) Γ1 := fun F G σ H W Q q => h F G σ H W Q fun v G' H' s W' r => q v G' H' s W' r
theorem de_siI {i : Int} (h : DE X e Γ .int i Γ1) : DE X e Γ .si (.inr i) Γ1 := fun F G σ H W Q q => h F G σ H W Q fun v G' H' s W' r => q v G' H' s W' r
theorem de_isiO {x : Ty.si.den} {T : String} {r1 r2 : Bool} {v : Str} {p2 : Pos} (hm : X.mg "isinstance" = none) (hmT : X.mg v = none) (h : DE X e Γ .si x Γ1) (hb : bootBuiltins v = some (.type T) := by decide +kernel) (hk1 : kitB "str" T = some r1 := by decide +kernel) (hk2 : kitB "int" T = some r2 := by decide +kernel) (hg : Gl X "isinstance" := by rfl) (hgT : Gl X v := by rfl)
    (hnn : v ≠ "__name__" := by decide) (hdb : (v == ("__debug__" : Str)) = false := by decide)
    (hs : starEach [e, .Name v p2] X.env = (false, eval e X.env) :: starEach [.Name v p2] X.env := by rfl) (hs2 : starEach [.Name v p2] X.env = (false, eval (.Name v p2) X.env) :: starEach [] X.env := by rfl) (hpl : (backTo pos (starEach [.Name v p2] X.env)).any (·.1) = false := by rfl) :
    DE X (.Call (.Name "isinstance" p) [e, .Name v p2] [] pos) Γ .bool (bif Sum.isLeft x then r1 else r2) Γ1 := fun F G σ H W Q q =>
  wpe_of (pe_callB call_isi hg hm (by decide +kernel) (pa_cons pe_wp (pa_cons (pe_bltn (v := .ty T) hgT hmT hb rfl hnn hdb) pa_nil hs2) hs) (by decide) (by decide) hs hpl) (h F G σ H W _ fun w G1 H1 s1 W1 q1 => by
    cases x with
    | inl y => exact ⟨w, .ty T, .type "str", .type T, r1, rfl, .ty T, tyx_of W1.gh .str "str" w y rfl q1, kit_ty hk1, q _ G1 H1 s1 W1 rfl⟩
    | inr i => exact ⟨w, .ty T, .type "int", .type T, r2, rfl, .ty T, tyx_of W1.gh .int "int" w i rfl q1, kit_ty hk2, q _ G1 H1 s1 W1 rfl⟩)
theorem de_isiC {x : Ty.si.den} {T : String} {r : Bool} {v : Str} {p2 : Pos} (hm : X.mg "isinstance" = none) (hmT : X.mg v = none) (h : DE X e Γ .si x Γ1) (hb : bootBuiltins v = some (.type T) := by decide +kernel) (hk1 : kitB "str" T = some r := by decide +kernel) (hk2 : kitB "int" T = some r := by decide +kernel) (hg : Gl X "isinstance" := by rfl) (hgT : Gl X v := by rfl)
    (hnn : v ≠ "__name__" := by decide) (hdb : (v == ("__debug__" : Str)) = false := by decide)
    (hs : starEach [e, .Name v p2] X.env = (false, eval e X.env) :: starEach [.Name v p2] X.env := by rfl) (hs2 : starEach [.Name v p2] X.env = (false, eval (.Name v p2) X.env) :: starEach [] X.env := by rfl) (hpl : (backTo pos (starEach [.Name v p2] X.env)).any (·.1) = false := by rfl) :
    DE X (.Call (.Name "isinstance" p) [e, .Name v p2] [] pos) Γ .bool r Γ1 := fun F G σ H W Q q =>
  wpe_of (pe_callB call_isi hg hm (by decide +kernel) (pa_cons pe_wp (pa_cons (pe_bltn (v := .ty T) hgT hmT hb rfl hnn hdb) pa_nil hs2) hs) (by decide) (by decide) hs hpl) (h F G σ H W _ fun w G1 H1 s1 W1 q1 => by
    cases x with
    | inl y => exact ⟨w, .ty T, .type "str", .type T, r, rfl, .ty T, tyx_of W1.gh .str "str" w y rfl q1, kit_ty hk1, q _ G1 H1 s1 W1 rfl⟩
    | inr i => exact ⟨w, .ty T, .type "int", .type T, r, rfl, .ty T, tyx_of W1.gh .int "int" w i rfl q1, kit_ty hk2, q _ G1 H1 s1 W1 rfl⟩)
end
end Dn

set_option Elab.async false
set_option linter.all false
set_option maxRecDepth 100000
set_option maxHeartbeats 1000000
/-! Dn31: << and >> of ints, & 1, list.reverse -/
namespace Dn
open PySem PySem.Spec PyProof.Rows L2
section
variable {X : Cx} {a b : Expr} {pos p : Pos} {Γ Γ1 Γ2 : List Slot}
theorem de_shl {i j : Int} (h : CPow i j) (ha : DE X a Γ .int i Γ1) (hb : DE X b Γ1 .int j Γ2) : DE X (.BinOp a .LShift b pos) Γ .int (i * 2 ^ j.toNat) Γ2 := fun F G σ H W Q q =>
  wpe_of (pe_op op_shl pe_wp pe_wp) (ev_op (τ := .int) (c := i * 2 ^ j.toNat) ha hb (fun G H v w Q _ r1 r2 q => ⟨i, j, r1, r2, h, q _ rfl⟩) F G σ H W Q q)
theorem de_shr {i j : Int} (h : 0 ≤ j) (ha : DE X a Γ .int i Γ1) (hb : DE X b Γ1 .int j Γ2) : DE X (.BinOp a .RShift b pos) Γ .int (i / 2 ^ j.toNat) Γ2 := fun F G σ H W Q q =>
  wpe_of (pe_op op_shr pe_wp pe_wp) (ev_op (τ := .int) (c := i / 2 ^ j.toNat) ha hb (fun G H v w Q _ r1 r2 q => ⟨i, j, r1, r2, h, q _ rfl⟩) F G σ H W Q q)
/-- i & 1 -/
theorem de_odd {i : Int} (h : 0 ≤ i) (ha : DE X a Γ .int i Γ1) (hb : DE X b Γ1 .int 1 Γ2) : DE X (.BinOp a .BitAnd b pos) Γ .int (i % 2) Γ2 := fun F G σ H W Q q =>
  wpe_of (pe_op op_odd pe_wp pe_wp) (ev_op (τ := .int) (c := i % 2) ha hb (fun G H v w Q _ r1 r2 q => ⟨i.toNat, by rw [show v = _ from r1]; congr 1; omega, r2, q _ (by show V.int _ = V.int _; congr 1; omega)⟩) F G σ H W Q q)
end
section
variable {X : Cx} {pos cpos apos npos : Pos} {Γ : List Slot} {t : Ty} {xs : List t.den} {n : Str}
/-- n.reverse() -/
theorem de_rev (i : Nat) {pin : Bool} (h : Γ[i]? = some (.ow pin (.lst t xs)) := by rfl) (hN : X.N[i]? = some n := by rfl) (hv : Vis X.env.scope n := by first | exact Or.inl rfl | exact Or.inr (Or.inl rfl) | exact Or.inr (Or.inr rfl))
    (hd : (n == ("__debug__" : Str)) = false := by decide) (hcd : (n == ("__classdict__" : Str)) = false := by decide) (hbase : attributeBase (.Name n npos) "reverse" X.env (eval (.Name n npos) X.env) = eval (.Name n npos) X.env := by rfl) (hline : (apos.endLine == cpos.line) = true := by rfl) :
    DE X (.Call (.Attribute (.Name n npos) "reverse" apos) [] [] cpos) Γ .non () (Γ.set i (.ow pin (.lst t xs.reverse))) := fun F G σ H W Q q => by
  obtain ⟨p, vs, h1, h2, h3⟩ := W.owned h
  refine wpe_of (pe_bm0 PySem.F.plainAttrs_list PySem.F.slot_list_reverse PySem.F.type_list_reverse mt_reverse (pe_var hN hv hd hcd) hbase hline) ⟨.ref p, h1, .inl ⟨rfl, vs, .inl (.inl h2)⟩, p, vs, rfl, rfl, h2, ?_⟩
  exact q .non G _ (Same.refl G) (W.mutate h h1 (pair_rev h3)) rfl
end
end Dn

set_option Elab.async false
set_option linter.all false
set_option maxRecDepth 100000
set_option maxHeartbeats 1000000
/-! Dn32: two names from a list of two -/
namespace Dn
open PySem PySem.Spec PyProof.Rows L2 TL
section
variable {X : Cx} {ρ : Type} {R : RI ρ} {e tg : Expr} {pos : Pos} {Γ Γ1 : List Slot} {t : Ty} {xs : List t.den}
theorem ds_unpackL (i j : Nat) (d : t.den) (hl : xs.length = 2) (he : DL X e Γ t xs Γ1) (hp : PG X tg (gLst X.K 2 (gCons (gName i) (gCons (gName j) gNil)))) (hs : swapsWithSole [tg] e pos.line X.env = pure false := by rfl) (hw : swappedStores [tg] e X.env = pure none := by rfl)
    (h1 : (assignEach [tg] X.env).map (·.2) = [assign tg X.env] := by rfl) : DS X R (.Assign [tg] e pos) Γ (.nx ((Γ1.set i (.fr t (get d xs (0 : Int)))).set j (.fr t (get d xs (1 : Int))))) := fun F G σ H W D q =>
  wps_of (ps_asg pe_wp hp hs hw h1) (he F G σ H W _ fun a vs G1 H1 s1 W1 h3 h4 => by
    cases h4 with
    | nil => cases hl
    | cons r1 h4 =>
      cases h4 with
      | nil => cases hl
      | cons r2 h4 =>
        cases h4 with
        | nil =>
          refine ⟨a, _, rfl, h3, rfl, ?_⟩
          exact (egs_cons i t (egs_cons j t egs_nil)).2 F G1 σ H1 Γ1 _ [.fr t _, .fr t _] W1 (.cons r1 (.cons r2 .nil)) rfl _ fun σ' _ W2 => q σ' G1 H1 s1 W2
        | cons _ _ => cases hl)
end
end Dn

set_option Elab.async false
set_option linter.all false
set_option maxRecDepth 100000
set_option maxHeartbeats 1000000
/-! Dn33: for x in reversed(a tuple) -/
namespace Dn
open PySem PySem.Spec PyProof.Rows L2 TL
section
variable {X : Cx} {tg e : Expr} {p pos : Pos} {Γ Γ1 : List Slot} {t : Ty} {xs : List t.den} {g : TG} {B : t.den → List Slot → List Slot} {tgs : List Nat}
theorem di_revU (hm : X.mg "reversed" = none) (he : DE X e Γ (.tup t) xs Γ1) (hg : EvG X.K g t B tgs) (hgl : Gl X "reversed" := by rfl) (hs : starEach [e] X.env = (false, eval e X.env) :: starEach [] X.env := by rfl) :
    DI X tg (.Call (.Name "reversed" p) [e] [] pos) g Γ xs.reverse B tgs Γ1 := fun F G σ H W R q =>
  wpi_of (RT.pi_revA hgl hm pe_wp hs) (he F G σ H W _ fun v G' H' s W' r => by
    obtain ⟨a, vs, rfl, h1, h2⟩ := r
    have el := pair_len h2
    have ql : ∀ {H2 : Hp}, Same G' H2 → SqT X.K H2 a vs := fun s => (h1.mono s).t
    refine ⟨a, vs, rfl, .inr ⟨ql W'.gh, q _ G' H' s W' ⟨fun i G2 H2 s1 s2 hi => ?_, fun G2 H2 s1 s2 => ?_, fun F i y G2 σ2 H2 Γ2 v H3 Q s1 W2 hy y' k => ?_⟩⟩⟩
    · rw [List.length_reverse] at hi
      exact ⟨by omega, vs, vs[vs.length - 1 - i]'(by omega), ql (s1.trans s2), List.getElem?_eq_getElem (by omega)⟩
    · show vs.length ≤ xs.reverse.length
      rw [List.length_reverse]; omega
    · obtain ⟨e1, e2⟩ := y'
      subst e1
      have e3 := e2 vs (ql (s1.trans W2.gh))
      have hi : i < xs.length := by have := (List.getElem?_eq_some_iff.mp hy).1; rwa [List.length_reverse] at this
      rw [List.getElem?_reverse hi] at hy
      obtain ⟨v', e4, e5⟩ := pair_get h2 hy
      rw [show xs.length - 1 - i = vs.length - 1 - i by omega, e3] at e4; cases e4
      exact hg F G2 σ2 _ Γ2 v y W2 (rep_mono s1 t v y e5) Q fun σ' a' W3 => k G2 σ' _ (Same.refl G2) a' W3)
end
end Dn

set_option Elab.async false
set_option linter.all false
set_option maxRecDepth 100000
set_option maxHeartbeats 1000000
/-! Dn34: x < y of tuples; min of a list of tuples, with default= -/
namespace Dn
open PySem PySem.Spec PyProof.Rows L2
def minT (t : Ty) (d : t.den) : List t.den → t.den
  | [] => d
  | x :: l => l.foldl (fun a y => if ltT t y a = true then y else a) x
section
variable {X : Cx} {a b e : Expr} {pos p : Pos} {Γ Γ1 Γ2 : List Slot} {t : Ty} {x y : t.den} {xs : List t.den}
theorem dc_ltD {k : Nat} (hr : RoomG k X.A) (ha : DE X a Γ t x Γ1) (hb : DE X b Γ1 t y Γ2) (hc : t.canLt = true := by rfl) (hd : t.dep ≤ 60 := by decide) : DC X .Lt a b Γ (ltT t x y) Γ2 := fun F G σ H W Q q =>
  wpc_of (pc_op (op_ltD (t := t) hr hc hd) pe_wp pe_wp) (ha F G σ H W _ fun v G1 H1 s1 W1 r1 => hb F G1 σ H1 W1 _ fun w G2 H2 s2 W2 r2 =>
    ⟨x, y, rep_dp W2.gh t v x (rep_mono s2 t v x r1), rep_dp W2.gh t w y r2, q _ G2 H2 (s1.trans s2) W2 rfl⟩)
open PySem.W in
theorem item_at {pins : List (Addr × Obj)} {σ : L2.St} {H G : Hp} {s : Shared} {us : List V} {its : List Value} (I : Inv X pins σ H s) (sg : Same G H) (rep : RepL X.K t G us xs) (rv : Vals us its) {i : Nat} {vi : Value} (hi : its.toArray[i]? = some vi) (d : t.den) :
    ∃ v as, RelV v vi ∧ Rep X.K t G v (xs.getD i d) ∧ Reads s.heap vi (toPy t (xs.getD i d)) as := by
  have hi' : its[i]? = some vi := by simpa using hi
  have hl : i < us.length := by rw [rv.length]; exact (List.getElem?_eq_some_iff.mp hi').1
  obtain ⟨u, h1, h2⟩ := rv.get (List.getElem?_eq_getElem hl)
  have e : u = vi := Option.some.inj (h1.symm.trans hi')
  subst e
  obtain ⟨y, h3, h4⟩ := pair_getL rep (List.getElem?_eq_getElem hl)
  have e2 : xs.getD i d = y := by rw [List.getD_eq_getElem?_getD, h3]; rfl
  rw [e2]
  obtain ⟨as, r⟩ := Dp.reads I _ _ u (rep_dp sg t _ y h4) h2
  exact ⟨_, as, h2, h4, r⟩
open PySem.W in
theorem cmpIn_T {k : Nat} (hr : RoomG k X.A) (hc : t.canLt = true) (hd : t.dep ≤ 60) {pins : List (Addr × Obj)} {σ : L2.St} {H G : Hp} {s : Shared} {us : List V} {its : List Value} (I : Inv X pins σ H s) (sg : Same G H) (rep : RepL X.K t G us xs) (rv : Vals us its) (d : t.den) :
    CmpIn X.prog X.w X.A.in1 .Lt s.heap (fun i v => its.toArray[i]? = some v) (fun i j => ltT t (xs.getD i d) (xs.getD j d)) := fun i j vi vj s' Q E hk hi hj hq => by
  obtain ⟨v1, as1, _, _, r1⟩ := item_at I sg rep rv hi d
  obtain ⟨v2, as2, _, _, r2⟩ := item_at I sg rep rv hj d
  have hne : toPy t (xs.getD i d) ≠ .none := by
    generalize xs.getD i d = z
    cases t <;> first | (simp [toPy]; done) | cases hc
  refine rcLt_alike _ _ X.A.in1 s' vi vj _ _ (reads_keeps hk r1) (reads_keeps hk r2) (alike_of t hc _ _) hne (by
    have h1 := hr.units
    have h2 := dep_le t (xs.getD i d)
    have h3 := Nat.min_le_left (toPy t (xs.getD i d)).depth (toPy t (xs.getD j d)).depth
    show X.A.units + 1 + _ < _
    omega) X.prog X.w E Q ?_
  rw [lt_data t hc]
  exact hq
/-- min(xs) -/
def rMinD (K : PySem.W.Frag) (t : Ty) (d : t.den) : List V → Hp → VK → Prop := fun vs H Q => ∃ (a : Addr) (us : List V) (G : Hp) (xs : List t.den), vs = [V.ref a] ∧ SqL K H a us ∧ Same G H ∧ RepL K t G us xs ∧ xs ≠ [] ∧ ∀ v, Rep K t G v (minT t d xs) → Q v H
open PySem.W in
theorem cr_minD {k : Nat} (hr : RoomG k X.A) (hcalm : X.calm = true) (hc : t.canLt = true) (hd : t.dep ≤ 60) (d : t.den) : CallR X (.builtin "min") (rMinD X.K t d) := by
  intro pins s σ H vs us Q I r h
  obtain ⟨a, vs1, G, xs, rfl, hs, sg, rep, hne, q⟩ := h
  obtain ⟨its, rv, hl, _⟩ := I.list hs
  rw [Vals.ref1 r]
  have hlen : its.length = xs.length := by rw [← rv.length]; exact pair_len rep
  refine call_min_walkH (iter_listW (A := X.A.in1) (I.ok.hd hcalm) hl.isList fun s₂ e W st hfp hw hk => ?_)
  refine ⟨_, _, _, _, _, _, _, s.heap, _, rfl, W, st, hfp, by rw [List.size_toArray, hlen]; cases xs with | nil => exact absurd rfl hne | cons _ _ => exact Nat.succ_pos _, hw, hk, cmpIn_T hr hc hd I sg rep rv d, fun v s' hP m => ?_⟩
  obtain ⟨h', tk, rfl, hk'⟩ := moved_old e rfl m
  obtain ⟨x, as, h1, h2, _⟩ := item_at I sg rep rv hP d
  cases xs with
  | nil => exact absurd rfl hne
  | cons y ys =>
    have e1 : its.toArray.size - 1 = ys.length := by rw [List.size_toArray, hlen]; rfl
    have e2 := (argBest_fold (ltT t) d y ys ys.length (Nat.le_refl _)).2
    rw [List.take_length] at e2
    rw [e1, e2] at h2
    exact ⟨x, H, I.kept (t' := tk) hk', h1, q x h2⟩
theorem de_minD {k : Nat} (d : t.den) (hr : RoomG k X.A) (hm : X.mg "min" = none) (hne : 0 < xs.length) (h : DL X e Γ t xs Γ1) (hc : X.calm = true := by rfl) (ht : t.canLt = true := by rfl) (hd : t.dep ≤ 60 := by decide) (hg : Gl X "min" := by rfl) (hs : starEach [e] X.env = (false, eval e X.env) :: starEach [] X.env := by rfl) (hpl : (backTo pos (starEach [] X.env)).any (·.1) = false := by rfl) : DE X (.Call (.Name "min" p) [e] [] pos) Γ t (minT t d xs) Γ1 := fun F G σ H W Q q =>
  wpe_of (pe_callB (cr_minD hr hc ht hd d) hg hm (by decide +kernel) pa_wp (by decide) (by decide) hs hpl) (wpa_one hs (h F G σ H W _ fun a vs G1 H1 s1 W1 h1 h2 => ⟨a, vs, G1, xs, rfl, h1, W1.gh, h2, (by intro z; rw [z] at hne; cases hne), fun v r => q v G1 H1 s1 W1 r⟩))
/-- min(xs, default=d) -/
def rMinKD (K : PySem.W.Frag) (t : Ty) (d : t.den) : List V → List V → Hp → VK → Prop := fun vs zs H Q => ∃ (a : Addr) (us : List V) (G : Hp) (xs : List t.den) (z : V), vs = [V.ref a] ∧ zs = [z] ∧ SqL K H a us ∧ Same G H ∧ RepL K t G us xs ∧ (xs = [] → Q z H) ∧ (xs ≠ [] → ∀ v, Rep K t G v (minT t d xs) → Q v H)
open PySem.W in
theorem cr_minKD {k : Nat} (hr : RoomG k X.A) (hcalm : X.calm = true) (hc : t.canLt = true) (hd : t.dep ≤ 60) (d : t.den) : CallRK X (.builtin "min") [Str.ofString "default"] (rMinKD X.K t d) := by
  intro pins s σ H vs zs us ws Q I r r2 h
  obtain ⟨a, vs1, G, xs, z, rfl, rfl, hs, sg, rep, q0, q⟩ := h
  obtain ⟨its, rv, hl, _⟩ := I.list hs
  rw [Vals.ref1 r]
  cases r2 with
  | cons rz rr =>
  cases rr
  have hlen : its.length = xs.length := by rw [← rv.length]; exact pair_len rep
  have hsz : its.toArray.size = xs.length := by rw [List.size_toArray, hlen]
  show wpAny _ _ (call (.builtin "min") [Value.ref a] [(Str.ofString "default", _)]) _ _ _
  refine call_min_walkD (iter_listW (A := X.A.in1) (I.ok.hd hcalm) hl.isList fun s₂ e W st hfp hw hk => ?_)
  refine ⟨_, _, _, _, _, _, _, s.heap, _, rfl, W, st, hfp, hw, hk, fun hz s' m => ?_, fun hp => ⟨cmpIn_T hr hc hd I sg rep rv d, fun v s' hP m => ?_⟩⟩
  · obtain ⟨h', tk, rfl, hk'⟩ := moved_old e rfl m
    exact ⟨z, H, I.kept (t' := tk) hk', rz, q0 (List.eq_nil_of_length_eq_zero (by omega))⟩
  · obtain ⟨h', tk, rfl, hk'⟩ := moved_old e rfl m
    obtain ⟨x, as, h1, h2, _⟩ := item_at I sg rep rv hP d
    cases xs with
    | nil => rw [hsz] at hp; cases hp
    | cons y ys =>
      have e1 : its.toArray.size - 1 = ys.length := by rw [hsz]; rfl
      have e2 := (argBest_fold (ltT t) d y ys ys.length (Nat.le_refl _)).2
      rw [List.take_length] at e2
      rw [e1, e2] at h2
      exact ⟨x, H, I.kept (t' := tk) hk', h1, q (fun z => by cases z) x h2⟩
/-- min of pairs, with a default whose second may be None -/
def minO (xs : List (Int × List Int)) (d : Int × Option (List Int)) : Int × Option (List Int) := match xs with
  | [] => d
  | x :: l => ((minT (.p2 .int (.tup .int)) (0, []) (x :: l)).1, some (minT (.p2 .int (.tup .int)) (0, []) (x :: l)).2)
theorem de_minO {k : Nat} {kpos : Pos} {xs : List (Int × List Int)} {d : Int × Option (List Int)} (hr : RoomG k X.A) (hm : X.mg "min" = none) (h : DE X e Γ (.lst (.p2 .int (.tup .int))) xs Γ1) (hd : DE X a Γ1 (.p2 .int (.opt (.tup .int))) d Γ2)
    (hc : X.calm = true := by rfl) (hg : Gl X "min" := by rfl)
    (hs : starEach [e] X.env = (false, eval e X.env) :: starEach [] X.env := by rfl)
    (he : backTo pos (starEach [e] X.env) = (false, eval e X.env) :: backTo pos (starEach [] X.env) := by rfl) (hpl : (backTo pos (starEach [e] X.env)).any (·.1) = false := by rfl)
    (hall : (backToKw pos (keywordEach [⟨some (Str.ofString "default"), a, kpos⟩] X.env)).all (·.1.isSome) = true := by rfl) (hnone : (backToKw pos (keywordEach [⟨some (Str.ofString "default"), a, kpos⟩] X.env)).any (·.1.isNone) = false := by rfl)
    (hks : (backToKw pos (keywordEach [⟨some (Str.ofString "default"), a, kpos⟩] X.env)).filterMap (·.1) = [Str.ofString "default"] := by rfl) :
    DE X (.Call (.Name "min" p) [e] [⟨some (Str.ofString "default"), a, kpos⟩] pos) Γ (.p2 .int (.opt (.tup .int))) (minO xs d) Γ2 := fun F G σ H W Q q =>
  wpe_of (pe_callBK (cr_minKD (t := .p2 .int (.tup .int)) hr hc rfl (by decide) (0, [])) hg hm (by decide +kernel) pa_wp (pk_cons pe_wp pk_nil) (by decide) (by decide) he hpl hall hnone hks) (wpa_one hs (h F G σ H W _ fun l0 G1 H1 s1 W1 h1 => by
    obtain ⟨l, vs, rfl, h1, h2⟩ := h1
    refine hd F G1 σ H1 W1 _ fun z G2 H2 s2 W2 r2 => ?_
    refine ⟨l, vs, G2, xs, z, rfl, rfl, .inl (rd_mono W2.gh (rd_mono s2 h1)), W2.gh, repL_mono s2 h2, fun e => ?_, fun ne v r => ?_⟩
    · subst e; exact q z G2 H2 (s1.trans s2) W2 r2
    · cases xs with
      | nil => exact absurd rfl ne
      | cons x l =>
        refine q v G2 H2 (s1.trans s2) W2 ?_
        obtain ⟨p0, v1, v2, h3, h4, h5, h6⟩ := r
        refine ⟨p0, v1, v2, h3, h4, h5, ?_, h6⟩
        obtain ⟨aa, vv, e1, _⟩ := h6
        rw [e1]; intro z; cases z))
end
end Dn

set_option Elab.async false
set_option linter.all false
set_option maxRecDepth 100000
set_option maxHeartbeats 1000000
/-! Dn35: repr of what may be None, of a text -/
namespace Dn
open PySem PySem.Spec PyProof.Rows L2
def Ty.disp2 : Ty → Bool
  | .opt t => t.disp2
  | .str => true
  | .lst _ => true | .tup _ => true | .p2 _ _ => true | .p3 _ _ _ => true | .p4 _ _ _ _ => true | .p5 _ _ _ _ _ => true | _ => false
section
variable {X : Cx} {Γ Γ1 : List Slot} {e : Expr} {pos p : Pos}
open PySem.W in
theorem cr_reprD2 {k : Nat} (hr : RoomG k X.A) : ∀ t : Ty, t.disp2 = true → t.dep ≤ 60 → CallR X (.builtin "repr") (rReprD X.K t)
  | .opt t, hd, hp => by
    intro pins s σ H vs us Q I r h
    obtain ⟨v, x, rfl, hv, ok, q⟩ := h
    cases x with
    | none =>
      cases hv
      cases r with
      | cons r r' =>
        cases r'
        cases r
        exact PySem.P.repr_of_none ⟨.str _, H, I.tok _, ⟨_, rfl⟩, q⟩
    | some y => exact cr_reprD2 hr t hd hp pins s σ H _ us Q I r ⟨v, y, rfl, hv, ok, q⟩
  | .str, hd, hp => by
    intro pins s σ H vs us Q I r h
    obtain ⟨v, x, rfl, hv, ok, q⟩ := h
    cases hv
    cases r with
    | cons r r' =>
      cases r'
      obtain ⟨t, rfl⟩ := r
      exact PySem.P.repr_of_str ⟨.str _, H, I.tok _, ⟨_, rfl⟩, q⟩ ok.2
  | .lst t, _, hp => cr_reprD hr rfl hp
  | .tup t, _, hp => cr_reprD hr rfl hp
  | .p2 _ _, _, hp => cr_reprD hr rfl hp
  | .p3 _ _ _, _, hp => cr_reprD hr rfl hp
  | .p4 _ _ _ _, _, hp => cr_reprD hr rfl hp
  | .p5 _ _ _ _ _, _, hp => cr_reprD hr rfl hp
  | .int, hd, _ => by cases hd
  | .bool, hd, _ => by cases hd
  | .non, hd, _ => by cases hd
  | .scr, hd, _ => by cases hd
  | .iu _, hd, _ => by cases hd
  | .si, hd, _ => by cases hd
theorem de_repr2 {t : Ty} {x : t.den} {k : Nat} (hr : RoomG k X.A) (hm : X.mg "repr" = none) (hz : ReprOk t x) (h : DE X e Γ t x Γ1) (hd : t.disp2 = true := by rfl) (hp : t.dep ≤ 60 := by decide) (hg : Gl X "repr" := by rfl) (hs : starEach [e] X.env = (false, eval e X.env) :: starEach [] X.env := by rfl) (hpl : (backTo pos (starEach [] X.env)).any (·.1) = false := by rfl) : DE X (.Call (.Name "repr" p) [e] [] pos) Γ .str (reprL t x) Γ1 := fun F G σ H W Q q =>
  wpe_of (pe_callB (cr_reprD2 hr t hd hp) hg hm (by decide +kernel) pa_wp (by decide) (by decide) hs hpl) (wpa_one hs (h F G σ H W _ fun v G1 H1 s1 W1 r1 => ⟨v, x, rfl, rep_dp W1.gh t v x r1, hz, q _ G1 H1 s1 W1 (by unfold reprL; rfl)⟩))
end
end Dn

set_option Elab.async false
set_option linter.all false
set_option maxRecDepth 100000
set_option maxHeartbeats 1000000
/-! Dn36: an int or a tuple, read as either; isinstance of such -/
namespace Dn
open PySem PySem.Spec PyProof.Rows L2
def iuT {α : Type} : Int ⊕ List α → List α
  | .inl _ => []
  | .inr y => y
def iuI {α : Type} : Int ⊕ List α → Int
  | .inl i => i
  | .inr _ => 0
section
variable {X : Cx} {e : Expr} {pos p : Pos} {Γ Γ1 : List Slot} {t : Ty}
theorem de_iuR {x : (Ty.iu t).den} (hx : Sum.isLeft x = false) (h : DE X e Γ (.iu t) x Γ1) : DE X e Γ (.tup t) (iuT x) Γ1 := fun F G σ H W Q q => h F G σ H W Q fun v G' H' s W' r => by
  cases x with
  | inl i => cases hx
  | inr y => exact q v G' H' s W' r
theorem de_iuL {x : (Ty.iu t).den} (hx : Sum.isLeft x = true) (h : DE X e Γ (.iu t) x Γ1) : DE X e Γ .int (iuI x) Γ1 := fun F G σ H W Q q => h F G σ H W Q fun v G' H' s W' r => by
  cases x with
  | inr i => cases hx
  | inl y => exact q v G' H' s W' r
theorem de_isiU {x : (Ty.iu t).den} {T : String} {r1 r2 : Bool} {v : Str} {p2 : Pos} (hm : X.mg "isinstance" = none) (hmT : X.mg v = none) (h : DE X e Γ (.iu t) x Γ1) (hb : bootBuiltins v = some (.type T) := by decide +kernel) (hk1 : kitB "int" T = some r1 := by decide +kernel) (hk2 : kitB "tuple" T = some r2 := by decide +kernel) (hg : Gl X "isinstance" := by rfl) (hgT : Gl X v := by rfl)
    (hnn : v ≠ "__name__" := by decide) (hdb : (v == ("__debug__" : Str)) = false := by decide)
    (hs : starEach [e, .Name v p2] X.env = (false, eval e X.env) :: starEach [.Name v p2] X.env := by rfl) (hs2 : starEach [.Name v p2] X.env = (false, eval (.Name v p2) X.env) :: starEach [] X.env := by rfl) (hpl : (backTo pos (starEach [.Name v p2] X.env)).any (·.1) = false := by rfl) :
    DE X (.Call (.Name "isinstance" p) [e, .Name v p2] [] pos) Γ .bool (bif Sum.isLeft x then r1 else r2) Γ1 := fun F G σ H W Q q =>
  wpe_of (pe_callB call_isi hg hm (by decide +kernel) (pa_cons pe_wp (pa_cons (pe_bltn (v := .ty T) hgT hmT hb rfl hnn hdb) pa_nil hs2) hs) (by decide) (by decide) hs hpl) (h F G σ H W _ fun w G1 H1 s1 W1 q1 => by
    cases x with
    | inl i => exact ⟨w, .ty T, .type "int", .type T, r1, rfl, .ty T, tyx_of W1.gh .int "int" w i rfl q1, kit_ty hk1, q _ G1 H1 s1 W1 rfl⟩
    | inr y => exact ⟨w, .ty T, .type "tuple", .type T, r2, rfl, .ty T, tyx_of W1.gh (.tup t) "tuple" w y rfl q1, kit_ty hk2, q _ G1 H1 s1 W1 rfl⟩)
end
end Dn

set_option Elab.async false
set_option linter.all false
set_option maxRecDepth 100000
set_option maxHeartbeats 2000000
/-! Dn37: dicts with keys that are pairs; sorted(such a dict); list(reversed(list)) -/
namespace Sd
open PySem PySem.Spec PyProof.Rows PySem.W
section
variable {prog : Program} {w : World} {A : Around} {E : Value → Shared → Prop} {s : Shared} {T : String} {r d : Addr} {n : Nat} {P : Nat → Value → Prop} {OK : Heap → Prop}
theorem collect_code {R : Result → Shared → Prop} (K : KdlSrc prog w T r d n P OK) (hh : A.handled = none) (hok : OK s.heap) (hn : n ≤ sizeLine)
    (hR : ∀ (h' : Heap) (tk : Nat) (acc' : Array Value) (c' : Nat), (∀ b o, s.heap.get? b = some o → h'.get? b = some o) → s.heap.objs.size ≤ h'.objs.size → ItemsOf P acc' n →
      h'.get? s.heap.objs.size = some { cls := .type "list", dict := none, data := .seq acc' c', slots := #[] } → R (.ok (.ret (.ref s.heap.objs.size))) { s with heap := h', toks := tk }) :
    codeAny (model prog w) A (.builtin "proto.collect" ⟨[.ref r], []⟩) R s := by
  have hlt := K.there _ hok
  refine codeAny_builtin PySem.F.entry_proto_collect ?_
  rw [Around.under_plainId PySem.F.plain_proto_collect _]
  show wpAny _ A.in1 (newList [] >>= fun l' => again (.builtin "list.__iadd__" ⟨[l', .ref r], []⟩)) _ _ s
  refine wpAny_bind (wpAny_newObj_type ?_)
  refine wpAny_pure ⟨plainId_quiet PySem.F.plain_list_iadd _, codeAny_builtin PySem.F.entry_list_iadd ?_⟩
  rw [Around.under_plainId PySem.F.plain_list_iadd _]
  have hS₁ : (s.heap.push { cls := .type "list", data := .seq ([] : List Value).toArray }).get? s.heap.objs.size = some { cls := .type "list", data := .seq ([] : List Value).toArray } := Heap.get?_push_size _ rfl
  show wpAny _ A.in1 (Builtin.List.listExtendWith (.ref s.heap.objs.size) (.ref r) (.ref s.heap.objs.size)) _ _ _
  exact kdl_extend (A := A) (s := { s with heap := s.heap.push { cls := .type "list", data := .seq ([] : List Value).toArray } }) (R := R) K hh (K.keep _ _ hok fun b _ o e => Heap.get?_push_of_some _ e) s.heap.objs.size (Nat.ne_of_gt hlt.1) (Nat.ne_of_gt hlt.2) (.ref s.heap.objs.size) 0 hS₁ (fun h' tk acc' c' hk hS' hacc =>
    hR h' tk acc' c' (fun b o e => hk b o (Nat.ne_of_lt (Heap.lt_size e)) (Heap.get?_push_of_some _ e)) (Nat.le_of_lt (Heap.lt_size hS')) hacc hS') hn
theorem collect_src {Q : List Value → Shared → Prop} (K : KdlSrc prog w T r d n P OK) (hh : A.handled = none) (hok : OK s.heap) (hn : n ≤ sizeLine)
    (hQ : ∀ (h' : Heap) (tk : Nat) (acc : Array Value), (∀ b o, s.heap.get? b = some o → h'.get? b = some o) → s.heap.objs.size ≤ h'.objs.size → ItemsOf P acc n → Q acc.toList { s with heap := h', toks := tk }) :
    wpAny (model prog w) A (collect (.ref r)) Q E s := by
  unfold collect
  refine wpAny_bind (wpAny_runValue (collect_code K hh hok hn fun h' tk acc' c' hk hsz hacc hS' => ?_))
  show wpAny _ A (load s.heap.objs.size >>= _) _ _ _
  refine wpAny_bind (wpAny_load hS' ?_)
  refine wpAny_pure ?_
  exact hQ h' tk acc' hk hsz hacc
theorem sorted_src {β : Type} {R : Value → β → Prop} {enc : β → PyData} {bs : List β} {Q : Value → Shared → Prop} (K : KdlSrc prog w T r d n P OK) (hh : A.handled = none) (hok : OK s.heap) (hn : n ≤ sizeLine) (hbn : bs.length = n)
    (he : ∀ acc : Array Value, ItemsOf P acc n → EachIs R acc.toList bs) (hr : ∀ v b, R v b → ∀ h' : Heap, (∀ b o, s.heap.get? b = some o → h'.get? b = some o) → Reads h' v (enc b) [])
    (hal : AllAlike (bs.map enc)) (hk : Sortable (bs.map enc)) (hu : ∀ b, b ∈ bs → A.units + 3 + (enc b).depth < cLine)
    (h : ∀ (h' : Heap) (tk : Nat) (p : Addr) (out : List Value) (c : Nat), (∀ b o, s.heap.get? b = some o → h'.get? b = some o) → s.heap.objs.size ≤ p → h'.get? p = some (seqObj "list" out.toArray c) → EachIs R out (bs.mergeSort (dataLe false enc)) → Q (.ref p) { s with heap := h', toks := tk }) :
    wpAny (model prog w) A (call (.builtin "sorted") [.ref r]) Q E s := by
  refine Calls.call_function_entry kind_sorted plain_sorted entry_sorted (args_sorted1 _) ?_
  unfold Builtin.«sorted»
  refine wpAny_bind (m := checkCount "sorted" 1 1 _) (wpAny_pure ?_)
  refine wpAny_bind (collect_src (A := A.in1) K hh hok hn fun h' tk acc keep hsz hacc => ?_)
  have hEach := he acc hacc
  have hlen : acc.toList.length ≤ sizeLine := by rw [hEach.length, hbn]; exact hn
  refine wpAny_bind (wpAny_newList ?_ hlen)
  have hoL : (h'.push (seqObj "list" acc.toList.toArray 0)).get? h'.objs.size = some (seqObj "list" acc.toList.toArray 0) := Heap.get?_push_size _ rfl
  have keep2 : ∀ b o, s.heap.get? b = some o → (h'.push (seqObj "list" acc.toList.toArray 0)).get? b = some o := fun b o e => Heap.get?_push_of_some _ (keep b o e)
  refine wpAny_bind (wpAny_holding (list_sort_data (A := A.in1) (s := { s with heap := h'.push (seqObj "list" acc.toList.toArray 0), toks := tk }) hoL hEach (hEach.mono fun v b q => ⟨[], hr v b q _ keep2, by simp⟩) hal hk (by rw [hbn]; exact hn) (fun b hb => by have := hu b hb; show A.units + 1 + 1 + _ < _; omega) fun out hl ho => ?_))
  refine wpAny_pure ⟨_, rfl, ?_⟩
  obtain ⟨c, hc⟩ := sortedHeap_at (vs := acc.toList) (out := out.toArray) hoL
  refine h _ _ _ out c (fun b o e => ?_) ?_ hc ho
  · have q := keep b o e
    have hlt := Heap.lt_size q
    rw [sortedHeap_old (Nat.ne_of_lt hlt) (by rw [size_push']; exact Nat.lt_succ_of_lt hlt)]
    exact Heap.get?_push_of_some _ q
  · exact hsz
end
end Sd

set_option Elab.async false
set_option linter.all false
set_option maxRecDepth 100000
set_option maxHeartbeats 2000000
/-! Dn38: dicts with keys that are pairs: {}, d[k] = v, [b for a, b in sorted(d)] -/
namespace Dn
open PySem PySem.Spec PyProof.Rows L2 TL
def Ty.k1 : Ty → Bool
  | .int => true | .str => true | _ => false
def kput {α β : Type} [DecidableEq α] (kvs : List (α × β)) (k : α) (y : β) : List (α × β) :=
  if (kvs.any fun p => decide (p.1 = k)) = true then kvs.map (fun p => if p.1 = k then (p.1, y) else p) else kvs ++ [(k, y)]
abbrev RepT (K : PySem.W.Frag) (k t : Ty) (G : Hp) (ws : List (List Key × V)) (kvs : List (k.den × t.den)) : Prop := Paired (fun (w : List Key × V) (y : k.den × t.den) => w.1 = keyL k y.1 ∧ Rep K t G w.2 y.2) ws kvs
theorem key1_inj : ∀ {A : Ty}, A.k1 = true → ∀ {x y : A.den}, key1 A x = key1 A y → x = y
  | .int, _, x, y, h => Sum.inl.inj h
  | .str, _, x, y, h => by
    have h := Sum.inr.inj h
    injection h with h
    exact List.toArray_inj h
theorem k1_two : ∀ {A B : Ty}, A.k1 = true → B.k1 = true → (Ty.p2 A B).dep ≤ 2 ∧ (Ty.p2 A B).canLt = true ∧ (Ty.p2 A B).canSort = true
  | .int, .int, _, _ => ⟨by decide, rfl, rfl⟩
  | .int, .str, _, _ => ⟨by decide, rfl, rfl⟩
  | .str, .int, _, _ => ⟨by decide, rfl, rfl⟩
  | .str, .str, _, _ => ⟨by decide, rfl, rfl⟩
theorem keyL_inj {A B : Ty} (hA : A.k1 = true) (hB : B.k1 = true) {x y : (Ty.p2 A B).den} (h : keyL (.p2 A B) x = keyL (.p2 A B) y) : x = y := by
  have h : [key1 A x.1, key1 B x.2] = [key1 A y.1, key1 B y.2] := h
  simp only [List.cons.injEq, and_true] at h
  exact Prod.ext (key1_inj hA h.1) (key1_inj hB h.2)
theorem rep_k1 {K : PySem.W.Frag} {G : Hp} : ∀ {A : Ty}, A.k1 = true → ∀ {v : V} {x : A.den}, Rep K A G v x ↔ v = kV (key1 A x)
  | .int, _, v, x => Iff.rfl
  | .str, _, v, x => Iff.rfl
theorem rep_key {K : PySem.W.Frag} {G : Hp} {A B : Ty} (hA : A.k1 = true) (hB : B.k1 = true) {v : V} {x : (Ty.p2 A B).den} (h : Rep K (.p2 A B) G v x) : ∃ p, v = .ref p ∧ G p = some (.tup ((keyL (.p2 A B) x).map kV)) := by
  obtain ⟨p, v1, v2, rfl, h1, h2, h3⟩ := h
  have e1 := (rep_k1 hA).mp h2
  have e2 := (rep_k1 hB).mp h3
  subst e1; subst e2
  exact ⟨p, rfl, h1⟩
section
variable {K : PySem.W.Frag} {G : Hp} {A B t : Ty}
theorem repT_any (hA : A.k1 = true) (hB : B.k1 = true) {ws : List (List Key × V)} {kvs : List ((Ty.p2 A B).den × t.den)} {k : (Ty.p2 A B).den} [DecidableEq (Ty.p2 A B).den] (r : RepT K (.p2 A B) t G ws kvs) : (ws.any fun p => decide (p.1 = keyL (.p2 A B) k)) = kvs.any fun p => decide (p.1 = k) := by
  induction r with
  | nil => rfl
  | @cons w y ws kvs h _ ih =>
    rw [List.any_cons, List.any_cons, ih, h.1]
    congr 1
    by_cases c : y.1 = k
    · rw [decide_eq_true c, decide_eq_true (congrArg _ c)]
    · rw [decide_eq_false c, decide_eq_false fun e => c (keyL_inj hA hB e)]
theorem repT_map (hA : A.k1 = true) (hB : B.k1 = true) {k : (Ty.p2 A B).den} [DecidableEq (Ty.p2 A B).den] {v : V} {y : t.den} (rv : Rep K t G v y) : ∀ {ws : List (List Key × V)} {kvs : List ((Ty.p2 A B).den × t.den)}, RepT K (.p2 A B) t G ws kvs →
    RepT K (.p2 A B) t G (ws.map fun kv => if kv.1 = keyL (.p2 A B) k then (kv.1, v) else kv) (kvs.map fun p => if p.1 = k then (p.1, y) else p)
  | _, _, .nil => .nil
  | _, _, @Paired.cons _ _ _ w z ws kvs h r => by
    rw [List.map_cons, List.map_cons]
    refine .cons ?_ (repT_map hA hB rv r)
    by_cases c : z.1 = k
    · rw [if_pos c, if_pos (by rw [h.1, c])]; exact ⟨h.1, rv⟩
    · rw [if_neg c, if_neg fun e => c (keyL_inj hA hB (by rw [← h.1]; exact e))]; exact h
theorem repT_put (hA : A.k1 = true) (hB : B.k1 = true) {ws : List (List Key × V)} {kvs : List ((Ty.p2 A B).den × t.den)} {k : (Ty.p2 A B).den} [DecidableEq (Ty.p2 A B).den] {v : V} {y : t.den} (r : RepT K (.p2 A B) t G ws kvs) (rv : Rep K t G v y) : RepT K (.p2 A B) t G (putK ws (keyL (.p2 A B) k) v) (kput kvs k y) := by
  unfold putK kput
  rw [repT_any hA hB r]
  split
  · exact repT_map hA hB rv r
  · exact pair_app r (.cons ⟨rfl, rv⟩ .nil)
end
section
variable {K : PySem.W.Frag} {F : Fx} {G H : Hp} {σ : L2.St} {Γ : List Slot} {i : Nat} {pin : Bool} {k t : Ty} {kvs kvs' : List (k.den × t.den)}
theorem Wd.ownedT (W : Wd K F G σ H Γ) (hi : Γ[i]? = some (.ow pin (.dtt k t kvs))) : ∃ p ws, σ[i]? = some (some (.ref p)) ∧ H p = some (.dT ws) ∧ RepT K k t G ws kvs := by
  obtain ⟨b, ho, e1, e2, e3, e4, e5, e6⟩ := W.sl i _ hi
  obtain ⟨ws, rfl, r⟩ := e5
  exact ⟨b, ws, e1, e4, r⟩
theorem Wd.mutateT {p : Addr} {ws' : List (List Key × V)} (W : Wd K F G σ H Γ) (hi : Γ[i]? = some (.ow pin (.dtt k t kvs))) (hp : σ[i]? = some (some (.ref p))) (r : RepT K k t G ws' kvs') : Wd K F G σ (upd H p (.dT ws')) (Γ.set i (.ow pin (.dtt k t kvs'))) := by
  obtain ⟨b, ho, e1, e2, e3, e4, e5, e6⟩ := W.sl i _ hi
  rw [hp] at e1; cases e1
  refine W.callB hi hp (Same.refl G) (fun c o e => ?_) (fun c o ne e => ?_) (fun c o _ _ n => n) upd_same ⟨ws', rfl, r⟩
  · rw [upd_ne (ne_of_none e e2)]; exact W.gh c o e
  · rw [upd_ne ne]; exact e
end
section
variable {X : Cx} {a b e : Expr} {pos p pos' npos : Pos} {Γ Γ1 Γ2 : List Slot} {A B t : Ty} {kvs : List ((Ty.p2 A B).den × t.den)} {n : Str} {ρ : Type} {R : RI ρ}
/-- {} -/
theorem do_tnew (k t : Ty) : DO X (.Dict [] [] pos) Γ (.dtt k t []) Γ := fun F G σ H W Q q =>
  wpe_of pe_dnewT fun p hp => q p _ G _ (Same.refl G) (W.new hp) (W.tn hp) ⟨[], rfl, .nil⟩
/-- d[k] = v -/
theorem ds_tput (i : Nat) {k : Nat} {pin : Bool} {y : (Ty.p2 A B).den} {x : t.den} [DecidableEq (Ty.p2 A B).den] (hr : RoomG k X.A) (hz : kvs.length < 100000) (hv2 : DE X e Γ t x Γ1) (hb : DE X b Γ1 (.p2 A B) y Γ2) (h1 : Γ1[i]? = some (.ow pin (.dtt (.p2 A B) t kvs)) := by rfl) (h2 : Γ2[i]? = some (.ow pin (.dtt (.p2 A B) t kvs)) := by rfl)
    (hA : A.k1 = true := by rfl) (hB : B.k1 = true := by rfl) (hN : X.N[i]? = some n := by rfl) (hv : Vis X.env.scope n := by first | exact Or.inl rfl | exact Or.inr (Or.inl rfl) | exact Or.inr (Or.inr rfl))
    (hd : (n == ("__debug__" : Str)) = false := by decide) (hcd : (n == ("__classdict__" : Str)) = false := by decide) (hs : swapsWith e (some (.Subscript (.Name n npos) b pos')) pos.line X.env = pure false := by rfl) :
    DS X R (.Assign [.Subscript (.Name n npos) b pos'] e pos) Γ (.nx (Γ2.set i (.ow pin (.dtt (.p2 A B) t (kput kvs y x))))) := fun F G σ H W D q => by
  have hu : X.A.units + 1 < cLine := by have := hr.units; omega
  refine wps_of (ps_dput hu (pe_var hN hv hd hcd) pe_wp pe_wp hs) (hv2 F G σ H W _ fun v G1 H1 s1 W1 r1 => ?_)
  obtain ⟨p, ws, e1, e2, e3⟩ := W1.ownedT h1
  refine ⟨.ref p, e1, hb F G1 σ H1 W1 _ fun w G2 H2 s2 W2 r2 => ?_⟩
  obtain ⟨p', ws', g1, g2, g3⟩ := W2.ownedT h2
  rw [e1] at g1; cases g1
  obtain ⟨b0, rfl, hb0⟩ := rep_key hA hB r2
  exact ⟨p, _, rfl, DPut.t g2 (W2.gh _ _ hb0) (by rw [pair_len g3]; exact Nat.lt_of_lt_of_le hz (by decide)), q σ G2 _ (s1.trans s2) (W2.mutateT h2 e1 (repT_put hA hB g3 (rep_mono s2 t v x r1)))⟩
/-! ### sorted(d) -/
theorem key_reads {pins : List (Addr × Obj)} {σ : L2.St} {H : Hp} {s : Shared} (I : Inv X pins σ H s) (hA : A.k1 = true) (hB : B.k1 = true) {q : Addr} {y : (Ty.p2 A B).den} (h : H q = some (.tup ((keyL (.p2 A B) y).map kV))) {h' : Heap} (hk : ∀ b o, s.heap.get? b = some o → h'.get? b = some o) : Reads h' (.ref q) (toPy (.p2 A B) y) [] := by
  obtain ⟨its, rv, ⟨o, ho, hc, n, hd⟩, hz⟩ := I.tuple (tT h)
  have one : ∀ {C : Ty} {z : C.den} {u : Value}, C.k1 = true → RelV (kV (key1 C z)) u → Reads h' u (toPy C z) [] := fun {C z u} hC r => by
    cases C with
    | int => obtain ⟨t, rfl⟩ := r; exact .int _ _
    | str => obtain ⟨t, rfl⟩ := r; exact .str _ _
    | _ => cases hC
  cases rv with
  | cons r1 rv =>
    cases rv with
    | cons r2 rv =>
      cases rv
      exact .tuple (as := [] ++ ([] ++ [])) (hk _ _ ho) hc hd (.cons (one hA r1) (.cons (one hB r2) .nil))
def rSortDT (A B : Ty) : List V → Hp → VK → Prop := fun vs H Q => ∃ (a : Addr) (ws : List (List Key × V)) (ys : List (Ty.p2 A B).den), vs = [V.ref a] ∧ H a = some (.dT ws) ∧ ws.map (·.1) = ys.map (keyL (.p2 A B)) ∧
  ∀ (qs : List Addr) (p : Addr), Paired (fun (q : Addr) (y : (Ty.p2 A B).den) => H q = some (.tup ((keyL (.p2 A B) y).map kV))) qs (sortT (.p2 A B) ys) → H p = none → Q (.ref p) (upd H p (.lst (qs.map V.ref)))
open PySem.W in
theorem each_pair {β : Type} {R : Value → β → Prop} : ∀ {vs : List Value} {bs : List β}, vs.length = bs.length → (∀ (j : Nat) (v : Value) (b : β), vs[j]? = some v → bs[j]? = some b → R v b) → EachIs R vs bs
  | [], [], _, _ => .nil
  | [], _ :: _, h, _ => by simp at h
  | _ :: _, [], h, _ => by simp at h
  | v :: vs, b :: bs, h, f => .cons (f 0 v b rfl rfl) (each_pair (by simpa using h) fun j u c h1 h2 => f (j + 1) u c (by simpa using h1) (by simpa using h2))
open PySem.W in
theorem each_refs {H : Hp} : ∀ {us : List Value} {ys : List (Ty.p2 A B).den}, EachIs (fun u y => ∃ q, u = Value.ref q ∧ H q = some (.tup ((keyL (.p2 A B) y).map kV))) us ys → ∃ qs : List Addr, us = qs.map Value.ref ∧ Paired (fun (q : Addr) (y : (Ty.p2 A B).den) => H q = some (.tup ((keyL (.p2 A B) y).map kV))) qs ys
  | _, _, .nil => ⟨[], rfl, .nil⟩
  | _, _, .cons r t => by
    obtain ⟨q, rfl, h⟩ := r
    obtain ⟨qs, rfl, h2⟩ := each_refs t
    exact ⟨q :: qs, rfl, .cons h h2⟩
open PySem.W in
theorem cr_sortDT {k : Nat} (hr : RoomG k X.A) (hcalm : X.calm = true) (hA : A.k1 = true) (hB : B.k1 = true) : CallR X (.builtin "sorted") (rSortDT A B) := by
  intro pins s σ H vs us Q I r h
  obtain ⟨a, ws, ys, rfl, ha, hkeys, q⟩ := h
  rw [Vals.ref1 r]
  obtain ⟨z, hs, ks, pr, o, es, ep, ho, hx, hdt, he, hn⟩ := (show ObjOk X.prog X.w H s.heap a (.dT ws) from I.hok a _ ha)
  have l1 : es.size = ks.length := size_of_entries he
  have l2 : ws.length = ks.length := Paired.length pr
  have l3 : ws.length = ys.length := by have := congrArg List.length hkeys; simpa using this
  obtain ⟨hd60, hlt, hso⟩ := k1_two hA hB
  refine Sd.sorted_src (R := fun u y => ∃ q, u = Value.ref q ∧ H q = some (.tup ((keyL (.p2 A B) y).map kV))) (enc := toPy (.p2 A B)) (bs := ys) (kdl_raw hs hx hdt) (I.ok.hd hcalm) ho (by omega) (by omega) (fun acc it => ?_) (fun v y hv h' hk => ?_) (AllAlike.of (alike_of _ hlt)) (sortable hso ys)
    (fun b _ => by
      have h1 := hr.units
      have h2 := dep_le (.p2 A B) b
      omega) fun h' tk p out c keep hp hg ho' => ?_
  · have hl : acc.toList.length = ys.length := by rw [Array.length_toList, it.1]; omega
    refine each_pair hl fun j v y hv hy => ?_
    obtain ⟨en, hen, rfl⟩ := it.2 j v (by rw [← Array.getElem?_toList]; exact hv)
    have qe := entry_at he j
    rw [hen] at qe
    have hj : j < ks.length := by have := (List.getElem?_eq_some_iff.mp hy).1; omega
    rw [List.getElem?_eq_getElem hj] at qe
    have e2 : en = entryOfKey (tupleKind (mixKind X.prog X.w)) ks[j] := Option.some.inj qe
    obtain ⟨w, hw, w1, w2, _⟩ := pair_get pr (List.getElem?_eq_getElem hj)
    have e3 : (ws.map (·.1))[j]? = some w.1 := by rw [List.getElem?_map, hw]; rfl
    rw [hkeys, List.getElem?_map, hy] at e3
    have e3 : keyL (.p2 A B) y = w.1 := Option.some.inj e3
    refine ⟨ks[j].2.1, by rw [e2]; rfl, ?_⟩
    rw [e3]; exact w2
  · obtain ⟨q, rfl, hq⟩ := hv
    exact key_reads I hA hB hq hk
  · rw [le_data hlt] at ho'
    obtain ⟨qs, rfl, hqs⟩ := each_refs ho'
    have hlen : (qs.map V.ref).length ≤ sizeLine := by
      have e1 := pair_len hqs
      rw [List.length_mergeSort] at e1
      rw [List.length_map]; omega
    have hv : Vals (qs.map V.ref) (qs.map Value.ref) := vals_refs qs
    exact ⟨.ref p, upd H p (.lst (qs.map V.ref)), I.laid (t' := tk) keep hp ⟨hlen, qs.map Value.ref, c, hv, hg⟩, rfl, q qs p hqs (I.hok.fresh hp)⟩
end
end Dn

set_option Elab.async false
set_option linter.all false
set_option maxRecDepth 100000
set_option maxHeartbeats 2000000
/-! Dn39: [b for a, b in sorted(d)] -/
namespace Dn
open PySem PySem.Spec PyProof.Rows L2 TL
section
variable {X : Cx} {elt tg : Expr} {scope : Scope} {pos p npos : Pos} {Γ : List Slot} {A B t : Ty} {kvs : List ((Ty.p2 A B).den × t.den)} {n : Str}
def sndS (A B : Ty) {β : Type} (kvs : List ((Ty.p2 A B).den × β)) : List B.den := (sortT (.p2 A B) (kvs.map (·.1))).map (·.2)
theorem rep_snds {K : PySem.W.Frag} {G : Hp} (hB : B.k1 = true) : ∀ ys : List (Ty.p2 A B).den, RepL K B G (ys.map fun y => kV (key1 B y.2)) (ys.map (·.2))
  | [] => .nil
  | y :: ys => .cons ((rep_k1 hB).mpr rfl) (rep_snds hB ys)
theorem lc_sortedSnd (own : List (Str × Nat)) (i i1 i2 : Nat) {k : Nat} {pin : Bool} (hr : RoomG k X.A) (hz : Sz kvs.length) (hm : X.mg "sorted" = none) (h : Γ[i]? = some (.ow pin (.dtt (.p2 A B) t kvs))) (h2 : Γ[i2]? = some .un) (hi : i1 ≠ i2)
    (hpg : ∀ (sh : Shared) (H : Hp) (C : Addr) (cl : List (Str × Addr)) (fp : List Addr), PG (X.blk sh H scope (compEnvC scope cl C X.env) fp) tg (gTup X.K 2 (gCons (gName i1) (gCons (gName i2) gNil))))
    (hte : ∀ (sh : Shared) (H : Hp) (C : Addr) (cl : List (Str × Addr)) (fp : List Addr), PE (X.blk sh H scope (compEnvC scope cl C X.env) fp) elt (tVar i2))
    (ok : BlkOk X.N X.env.scope scope own) (hw : wipeS Γ (own.map (·.2)) = Γ := by rfl) (htg : ∀ j ∈ [i1, i2], j ∈ own.map (·.2) := by decide)
    (hA : A.k1 = true := by rfl) (hB : B.k1 = true := by rfl) (hN : X.N[i]? = some n := by rfl) (hv : Vis X.env.scope n := by first | exact Or.inl rfl | exact Or.inr (Or.inl rfl) | exact Or.inr (Or.inr rfl))
    (hd : (n == ("__debug__" : Str)) = false := by decide) (hcd : (n == ("__classdict__" : Str)) = false := by decide) (hc : X.calm = true := by rfl) (hg : Gl X "sorted" := by rfl)
    (hs : starEach [.Name n npos] X.env = (false, eval (.Name n npos) X.env) :: starEach [] X.env := by rfl) (hpl : (backTo pos (starEach [] X.env)).any (·.1) = false := by rfl) :
    LcOk X elt tg (.Call (.Name "sorted" p) [.Name n npos] [] pos) [] scope Γ (.lst B (sndS A B kvs)) Γ := by
  refine ⟨own, _, _, tYes, tVar i2, ok, pi_wp (tg := tg), hpg, fun sh H C cl fp => pts_nil, hte, fun F G σ H W Q q => ?_⟩
  obtain ⟨d, ws, e1, e2, e3⟩ := W.ownedT h
  have hkeys : ws.map (·.1) = (kvs.map (·.1)).map (keyL (.p2 A B)) := by
    clear q W e2 e1 h hz
    induction e3 with
    | nil => rfl
    | cons r _ ih => rw [List.map_cons, List.map_cons, List.map_cons, ih, r.1]
  refine wpi_of (pi_list pe_wp) (wpe_of (pe_callB (cr_sortDT hr hc hA hB) hg hm (by decide +kernel) pa_wp (by decide) (by decide) hs hpl) (wpa_one hs (wpe_of (pe_var hN hv hd hcd) ⟨.ref d, e1, d, ws, kvs.map (·.1), rfl, e2, hkeys, fun qs a hq ha => ⟨a, rfl, ⟨_, SqL.of upd_same⟩, ?_⟩⟩)))
  intro D hD
  have lq : qs.length = (sortT (.p2 A B) (kvs.map (·.1))).length := pair_len hq
  have lk : (sortT (.p2 A B) (kvs.map (·.1))).length = kvs.length := by unfold sortT; rw [List.length_mergeSort, List.length_map]
  have hDa : D ≠ a := fun z => by subst z; rw [upd_same] at hD; cases hD
  generalize hy : sortT (.p2 A B) (kvs.map (·.1)) = ys at hq lq lk
  have W1 : Wd X.K F G σ (upd H a (.lst (qs.map V.ref))) Γ := (W.new ha).drop (W.tn ha)
  have il2 : i2 < σ.length := by rw [W.len]; exact (List.getElem?_eq_some_iff.mp h2).1
  have cell : ∀ vs : List V, upd (upd H a (.lst (qs.map V.ref))) D (.lst vs) a = some (.lst (qs.map V.ref)) := fun vs => by rw [upd_ne (fun z => hDa z.symm), upd_same]
  refine ⟨fun i m H' => m = ys.length - i ∧ i ≤ ys.length ∧ H' = upd (upd H a (.lst (qs.map V.ref))) D (.lst ((ys.take i).map fun y => kV (key1 B y.2))), ⟨ys.length, by omega, by omega, rfl⟩, ?_⟩
  rintro j m H' ⟨rfl, hj, rfl⟩
  by_cases hl : j < ys.length
  · have hqj : (qs.map V.ref)[j]? = some (V.ref (qs[j]'(by omega))) := by rw [List.getElem?_map, List.getElem?_eq_getElem (by omega)]; rfl
    refine .inr ⟨⟨_, _, SqL.of (cell _), hqj⟩, fun H3 => H3 = upd (upd H a (.lst (qs.map V.ref))) D (.lst ((ys.take (j + 1)).map fun y => kV (key1 B y.2))), fun H3 e => ⟨ys.length - (j + 1), by omega, rfl, hl, e⟩, fun v H3 y => ?_⟩
    obtain ⟨rfl, yv⟩ := y
    have yv := yv _ (SqL.of (cell _))
    rw [hqj] at yv
    obtain rfl : V.ref (qs[j]'(by omega)) = v := Option.some.inj yv
    obtain ⟨q', hq', hc'⟩ := pair_get hq (List.getElem?_eq_getElem hl)
    rw [List.getElem?_eq_getElem (by omega)] at hq'
    obtain rfl : qs[j]'(by omega) = q' := Option.some.inj hq'
    have nqa : qs[j]'(by omega) ≠ a := fun z => by rw [z, ha] at hc'; cases hc'
    have nqD : qs[j]'(by omega) ≠ D := fun z => by
      rw [← z, upd_ne nqa] at hD
      rw [hD] at hc'; cases hc'
    have hc2 : ∀ vs : List V, upd (upd H a (.lst (qs.map V.ref))) D (.lst vs) (qs[j]'(by omega)) = some (.tup [kV (key1 A ys[j].1), kV (key1 B ys[j].2)]) := fun vs => by
      rw [upd_ne nqD, upd_ne nqa]; exact hc'
    refine ⟨_, _, rfl, tT (hc2 _), rfl, _, _, rfl, _, _, rfl, rfl, ?_, ?_⟩
    · exact wipe_back (at_trans at_set at_set) htg
    · unfold tYes
      simp only []
      rw [if_pos trivial]
      refine ⟨kV (key1 B ys[j].2), ?_, (ys.take j).map (fun y => kV (key1 B y.2)), upd_same, ?_, ?_⟩
      · rw [List.getElem?_set_self (by rw [List.length_set, wipe_length]; exact il2)]
      · rw [List.length_map, List.length_take]
        have := hz.le
        have h0 : kvs.length < sizeLine := hz.lt
        omega
      · have e5 : (ys.take (j + 1)).map (fun y => kV (key1 B y.2)) = (ys.take j).map (fun y => kV (key1 B y.2)) ++ [kV (key1 B ys[j].2)] := by
          rw [List.take_add_one, List.getElem?_eq_getElem hl, List.map_append]; rfl
        rw [e5]
        funext c
        unfold upd
        split <;> rfl
  · have e : j = ys.length := by omega
    subst e
    refine .inl ⟨⟨_, SqL.of (cell _), by rw [List.length_map]; omega⟩, ?_⟩
    rw [List.take_length]
    refine q D _ G _ (Same.refl G) (W1.new hD) (W1.tn hD) ⟨_, rfl, ?_⟩
    unfold sndS
    rw [hy]
    exact rep_snds hB ys
end
end Dn

set_option Elab.async false
set_option linter.all false
set_option maxRecDepth 100000
set_option maxHeartbeats 1000000
/-! Dn40: tuple(range(n)) -/
namespace Dn
open PySem PySem.Spec PyProof.Rows L2
section
variable {X : Cx} {a e : Expr} {p p2 pos pos2 : Pos} {Γ Γ1 : List Slot} {n : Int}
def tTupRgO (te : L2.St → Hp → (Int → Int → Hp → Prop) → Prop) : TE := fun σ H Q => te σ H fun a b H1 => RgOk a b ∧ ∀ (q : Addr) (o : Obj), H1 q = none → o.dict = none → Q (.ref q) (upd H1 q (.frz o (.tup (rgV a b))))
theorem pe_tupRgO {te : L2.St → Hp → (Int → Int → Hp → Prop) → Prop} (hc : X.calm = true) (hg : Gl X "tuple") (hm : X.mg "tuple" = none) (he : PRg X e te) (na : starEach [e] X.env = (false, eval e X.env) :: starEach [] X.env := by rfl) : PE X (.Call (.Name "tuple" p) [e] [] pos) (tTupRgO te) := by
  refine ⟨fun pins s σ H Q I h => ?_⟩
  refine Call_ (ld_blt I hg hm boot_tuple (PyProof.Rows.callWith_type1 (args_cons (thn (he pins s σ H _ I h) fun x s1 ⟨r, a, b, t, u, v, H1, ex, hr, I1, ok, q⟩ => args_nil ?_) na) na))
  subst ex
  obtain ⟨b1, b2, b3, b4, b5⟩ := ok
  refine call_tuple_range (n := (b - a).toNat) (I1.ok.hd hc) hr (small_one b1 b2 b3 b4) (rangeSize_nat a b) b5 fun h' tk acc hk hi => ?_
  have I2 : Inv X pins σ H1 { s1 with heap := h', toks := tk } := I1.kept hk
  refine ⟨.ref h'.objs.size, upd H1 h'.objs.size (.frz { cls := .type "tuple", data := .seq acc } (.tup (rgV a b))), I2.laid (t' := tk) (fun c o e => Heap.get?_push_of_some _ e) (Nat.le_refl _) (show ObjOk X.prog X.w _ _ _ (.frz _ (.tup (rgV a b))) from ⟨Heap.get?_push_size _ rfl, ?_, acc.toList, vals_rg hi, ?_⟩), rfl, q _ _ (I2.hok.fresh (Nat.le_refl _)) rfl⟩
  · rw [rgV_length, sizeLine_eq]; omega
  · rw [Array.toArray_toList]; exact IsTup.new _ _
theorem de_tupRg (hm : X.mg "tuple" = none) (hm2 : X.mg "range" = none) (hz : LrOk n) (h : DE X a Γ .int n Γ1) (hc : X.calm = true := by rfl) (hg : Gl X "tuple" := by rfl) (hg2 : Gl X "range" := by rfl)
    (hs : starEach [a] X.env = (false, eval a X.env) :: starEach [] X.env := by rfl)
    (hs2 : starEach [.Call (.Name "range" p2) [a] [] pos2] X.env = (false, eval (.Call (.Name "range" p2) [a] [] pos2) X.env) :: starEach [] X.env := by rfl) :
    DE X (.Call (.Name "tuple" p) [.Call (.Name "range" p2) [a] [] pos2] [] pos) Γ (.tup .int) (rng 0 n) Γ1 := fun F G σ H W Q q =>
  wpe_of (pe_tupRgO hc hg hm (prg_1 hg2 hm2 pe_wp hs) hs2) (h F G σ H W _ fun v G1 H1 s1 W1 r1 => ⟨n, r1, ⟨⟨by decide, by decide, by have := hz.1; omega, by have := hz.2; omega, by have := hz.2; omega⟩, fun l o hl ho => by
    rw [rgV_rng]
    have sm := same_upd (o := .frz o (.tup ((rng 0 n).map V.int))) (W1.gn hl)
    exact q (.ref l) _ _ (s1.trans sm) (W1.newG hl) ⟨l, _, rfl, ⟨o, upd_same, ho⟩, repL_ints _⟩⟩⟩)
end
end Dn

set_option Elab.async false
set_option linter.all false
set_option maxRecDepth 100000
set_option maxHeartbeats 4000000
/-! Dn41: sorted(set(..)) of texts -/
namespace Sx
open PySem PySem.Spec PyProof.Rows L2
def keyS (e : Int × Value) : Str := match e.2 with | .str k _ => k | _ => Str.empty
def GoodX (w : World) (e : Int × Value) : Prop := ∃ (k : Str) (tk : Tok), e.2 = Value.str k tk ∧ e.1 = hashStr w k
def SetX (w : World) (h : Heap) (a : Addr) (S : Str → Bool) (n : Nat) : Prop :=
  ∃ o es ep t, h.get? a = some o ∧ o.ExactSet ∧ o.data = .set es ep t ∧ (∀ e ∈ es.toList, GoodX w e) ∧ (es.toList.map keyS).Nodup ∧ (∀ k, S k = true ↔ k ∈ es.toList.map keyS) ∧
    es.size < scanBound ∧ t.fits es.size = true ∧ es.size = n ∧ Ris t.place.toList ∧ (w.params.followText "set-order" = true ∨ t.led = true)
section
variable {P : Program} {w : World} {h h' : Heap} {a : Addr} {S : Str → Bool} {n : Nat}
theorem is_strX (k : Str) (u : Tok) : (PySem.strKind P w).is k (.str k u) = true := by
  show Value.isStrOf k (.str k u) = true
  simp [Value.isStrOf]
theorem SetX.at (R : SetX w h a S n) (k : ∀ o, h.get? a = some o → h'.get? a = some o) : SetX w h' a S n := by
  obtain ⟨o, es, ep, t, ho, r⟩ := R
  exact ⟨o, es, ep, t, k o ho, r⟩
theorem SetX.congr {S' : Str → Bool} (R : SetX w h a S n) (e : ∀ k, S' k = S k) : SetX w h a S' n := by
  rw [show S' = S from funext e]; exact R
theorem goodX_elems {l : List (Int × Value)} (g : ∀ e ∈ l, GoodX w e) : ElemsOf (PySem.strKind P w) l := fun e he => by
  obtain ⟨k, tk, h1, h2⟩ := g e he
  exact ⟨⟨k, by rw [h1]; exact is_strX k tk, h2⟩, by rw [h1]; rfl⟩
theorem goodX_is {e : Int × Value} (g : GoodX w e) (k : Str) : (PySem.strKind P w).is k e.2 = true ↔ keyS e = k := by
  obtain ⟨k0, tk, h1, _⟩ := g
  unfold keyS
  rw [h1]
  constructor
  · intro q
    exact (PySem.strKind P w).inj (.str k0 tk) k0 k (is_strX k0 tk) q
  · rintro rfl; exact is_strX _ _
theorem goodX_mem {l : List (Int × Value)} (g : ∀ e ∈ l, GoodX w e) (k : Str) : k ∈ l.map keyS ↔ ∃ e ∈ l, (PySem.strKind P w).is k e.2 = true := by
  rw [List.mem_map]
  exact ⟨fun ⟨e, he, q⟩ => ⟨e, he, (goodX_is (g e he) k).2 q⟩, fun ⟨e, he, q⟩ => ⟨e, he, (goodX_is (P := P) (g e he) k).1 q⟩⟩
end
section
variable {P : Program} {w : World} {A : Around} {E : Value → Shared → Prop} {s : Shared} {a : Addr} {S : Str → Bool} {n : Nat}
theorem addX_tail {g : Bool → Sem Unit} (hg : ∀ (b : Bool) (s₁ : Shared) (Q' : Unit → Shared → Prop), Q' () s₁ → wpAny (model P w) A (g b) Q' E s₁)
    {o : Obj} {es : Array (Int × Value)} {ep : Nat} {t : SetTable} (ho : s.heap.get? a = some o) (hex : o.ExactSet) (hd : o.data = .set es ep t)
    {es1 : Array (Int × Value)} {t2 : SetTable} {S' : Str → Bool} (g1 : ∀ e ∈ es1.toList, GoodX w e) (nd1 : (es1.toList.map keyS).Nodup) (m1 : ∀ k, S' k = true ↔ k ∈ es1.toList.map keyS)
    (hb1 : es1.size < scanBound) (hf2 : t2.fits es1.size = true) (hr : Ris t2.place.toList) (hl : w.params.followText "set-order" = true ∨ t2.led = true) {wasDummy : Bool} {R : Option Bool → Shared → Prop}
    (hR : ∀ h', Heap.SameBut a s.heap h' → SetX w h' a S' es1.size → R (some true) { s with heap := h' }) :
    wpAny (model P w) A (do
        storeSet a es1 t2
        if (!wasDummy && t2.tooFull) = true then do
            g (relayAll t2 es1 (SetTable.grown es1.size)).2.2
            storeSet a (relayAll t2 es1 (SetTable.grown es1.size)).1 (relayAll t2 es1 (SetTable.grown es1.size)).2.1
            pure (some true)
          else pure (some true)) R E s := by
  refine wpAny_bind (wpAny_storeSet_of ho hd ?_ (fits_of_scanBound hb1))
  have ho1 := store_at (es' := es1) (t' := t2) ho hd
  have sb1 := Heap.SameBut.update s.heap a (Obj.putSet es1 t2)
  split
  · have pm := relayAll_perm t2 es1 (SetTable.grown es1.size)
    have hf3 := relayAll_fits t2 es1 (SetTable.grown es1.size)
    have hr3 := relayAll_ris t2 es1 (SetTable.grown es1.size)
    have hl3 := relayAll_led t2 es1 (SetTable.grown es1.size)
    generalize relayAll t2 es1 (SetTable.grown es1.size) = Z at pm hf3 hr3 hl3 ⊢
    obtain ⟨es2, t3, gave⟩ := Z
    dsimp only at pm hf3 hr3 hl3 ⊢
    have hsz : es2.size = es1.size := by rw [← Array.length_toList, pm.length_eq, Array.length_toList]
    have hb2 : es2.size < scanBound := by rw [hsz]; exact hb1
    refine wpAny_bind (hg _ _ _ ?_)
    refine wpAny_bind (wpAny_storeSet_of ho1 rfl ?_ (fits_of_scanBound hb2))
    have ho2 := store_at (es' := es2) (t' := t3) ho1 rfl
    refine wpAny_pure (hR _ (sb1.trans (Heap.SameBut.update _ a _)) ?_)
    exact ⟨_, es2, _, t3, ho2, hex, rfl, fun e he => g1 e (pm.mem_iff.mp he), (pm.map keyS).nodup_iff.mpr nd1, fun k => (m1 k).trans (pm.map keyS).mem_iff.symm, hb2, hf3, hsz, hr3,
      hl.imp id fun z => by rw [hl3]; exact z⟩
  · exact wpAny_pure (hR _ sb1 ⟨_, es1, _, t2, ho1, hex, rfl, g1, nd1, m1, hb1, hf2, rfl, hr, hl⟩)

theorem addX_hashed {k : Str} {tk : Tok} {Q : Bool → Shared → Prop} (R : SetX w s.heap a S n) (room : n + 1 < scanBound)
    (hQ : ∀ h', Heap.SameBut a s.heap h' → SetX w h' a (fun j => S j || decide (j = k)) (if S k = true then n else n + 1) → Q (!S k) { s with heap := h' }) :
    wpAny (model P w) A (setAddHashed a (.str k tk) ((PySem.strKind P w).hash k)) Q E s := by
  obtain ⟨o, es, ep, t, ho, hex, hd, g, nd, hm, hb, hf, hn, hr, hl⟩ := R
  have hkey : (PySem.strKind P w).is k (.str k tk) = true := is_strX k tk
  have hsc : (Value.str k tk).scannable = true := rfl
  have hel : ElemsOf (PySem.strKind P w) es.toList := goodX_elems g
  unfold setAddHashed setAddHashedIn
  refine wpAny_holding (wpAny_bind (wpAny_setState_of ho hd hf ?_))
  dsimp only
  rw [byScan_of hsc hb hel]
  simp only [↓reduceIte]
  unfold setAddByScan
  refine wpAny_bind ?_
  refine wpAny_bind (wpAny_rule ?_)
  refine wpAny_bind (wpAny_setScan_of hkey ho hd hf hel ?_)
  cases hfi : List.findIdx? (fun e => (PySem.strKind P w).is k e.2) es.toList with
  | some j =>
    dsimp only
    obtain ⟨hj, pj, _⟩ := List.findIdx?_eq_some_iff_getElem.mp hfi
    have hSk : S k = true := (hm k).2 ((goodX_mem (P := P) (w := w) g k).2 ⟨es.toList[j], List.getElem_mem hj, pj⟩)
    refine wpAny_pure (wpAny_pure ?_)
    have q := hQ s.heap (Heap.SameBut.refl a s.heap) ⟨o, es, ep, t, ho, hex, hd, g, nd, fun i => by
      rw [Bool.or_eq_true, decide_eq_true_eq, ← hm i]
      exact ⟨fun z => z.elim id (fun e => e ▸ hSk), .inl⟩, hb, hf, by rw [if_pos hSk]; exact hn, hr, hl⟩
    rw [hSk] at q
    exact q
  | none =>
    dsimp only
    have hnk : k ∉ es.toList.map keyS := fun z => by
      obtain ⟨e, he, q⟩ := (goodX_mem (P := P) (w := w) g k).1 z
      have c := List.findIdx?_eq_none_iff.mp hfi e he
      rw [q] at c
      cases c
    have hSk : S k = false := by
      cases q : S k with
      | false => rfl
      | true => exact absurd ((hm k).1 q) hnk
    have hgw : ∀ (b : Bool) {s₁ : Shared} {Q' : Unit → Shared → Prop}, Q' () s₁ → wpAny (model P w) A (match b with | true => rule "set.scan.the-table-gave-way" | false => pure ()) Q' E s₁ :=
      fun b s₁ Q' q => by cases b <;> first | exact wpAny_pure q | exact wpAny_rule q
    have pm := layNew_perm t es ((PySem.strKind P w).hash k) (.str k tk)
    have hf1 := layNew_fits t es ((PySem.strKind P w).hash k) (.str k tk)
    have hr1 := layNew_ris t es ((PySem.strKind P w).hash k) (.str k tk) hr
    have hl1 := layNew_led t es ((PySem.strKind P w).hash k) (.str k tk)
    generalize layNew t es ((PySem.strKind P w).hash k) (.str k tk) = Z at pm hf1 hr1 hl1 ⊢
    obtain ⟨es1, t1, wasDummy, gave⟩ := Z
    dsimp only at pm hf1 hr1 hl1 ⊢
    rw [Array.toList_push] at pm
    have pc : es1.toList.Perm (((PySem.strKind P w).hash k, Value.str k tk) :: es.toList) := pm.trans (List.perm_append_singleton _ _)
    have pk : (es1.toList.map keyS).Perm (k :: es.toList.map keyS) := pc.map keyS
    have g1 : ∀ e ∈ es1.toList, GoodX w e := fun e he => by
      rcases List.mem_cons.mp (pc.mem_iff.mp he) with z | z
      · rw [z]; exact ⟨k, tk, rfl, rfl⟩
      · exact g e z
    have nd1 : (es1.toList.map keyS).Nodup := pk.nodup_iff.mpr (List.nodup_cons.mpr ⟨hnk, nd⟩)
    have m1 : ∀ i, (S i || decide (i = k)) = true ↔ i ∈ es1.toList.map keyS := fun i => by
      rw [Bool.or_eq_true, decide_eq_true_eq, hm i, pk.mem_iff, List.mem_cons]
      exact Or.comm
    have hsz : es1.size = n + 1 := by rw [← Array.length_toList, pc.length_eq, List.length_cons, Array.length_toList, hn]
    have hb1 : es1.size < scanBound := by rw [hsz]; exact room
    have hled : w.params.followText "set-order" = true ∨ t1.led = true := hl.imp id fun z => by rw [hl1]; exact z
    have fin : ∀ h', Heap.SameBut a s.heap h' → SetX w h' a (fun j => S j || decide (j = k)) es1.size → Q true { s with heap := h' } := fun h' sb r => by
      have q := hQ h' sb
      rw [hSk] at q
      rw [hsz] at r
      exact q r
    refine wpAny_bind (hgw _ ?_)
    split
    · refine wpAny_bind ?_
      rw [hashByValue_scannable 8 hsc]
      refine wpAny_pure ?_
      refine addX_tail ?_ ho hex hd g1 nd1 m1 hb1 ?_ ?_ ?_ ?_
      · intro b s₁ Q' q; cases b <;> first | exact wpAny_pure q | exact wpAny_rule q
      · first | (split <;> first | exact hf1 | exact SetTable.fits_plain_off hf1) | exact hf1
      · first | (split <;> exact hr1) | exact hr1
      · first | (split <;> exact hled) | exact hled
      · intro h' sb r; dsimp only; exact wpAny_pure (fin h' sb r)
    · refine wpAny_bind (wpAny_pure ?_)
      simp only [↓reduceIte]
      refine addX_tail ?_ ho hex hd g1 nd1 m1 hb1 hf1 hr1 hled ?_
      · intro b s₁ Q' q; cases b <;> first | exact wpAny_pure q | exact wpAny_rule q
      · intro h' sb r; dsimp only; exact wpAny_pure (fin h' sb r)

theorem update_strs {I : Addr} {fp wr : List Addr} {G : Array GenState → Array GenState → Prop} {n : Nat} {Pv : Nat → Value → Prop} {St : Nat → Shared → Prop} {R : Result → Shared → Prop}
    (W : WalksS P w A.in1 I fp wr G n Pv St) (S : Addr) (hSf : S ∉ fp) (ns : List Str) (hn : n = ns.length) (hb : ns.length + 1 < scanBound) (hval : ∀ i v, Pv i v → ∃ k t, ns[i]? = some k ∧ v = .str k t) :
    ∀ (k i : Nat) (s : Shared), n - i = k → i ≤ n → St i s → (∃ c, c ≤ i ∧ SetX w s.heap S (fun j => decide (j ∈ ns.take i)) c) →
      (∀ s' c, Moved (S :: wr) G s s' → c ≤ n → SetX w s'.heap S (fun j => decide (j ∈ ns)) c → R (.ok (.ret .none)) s') →
      codeAny (model P w) A (.builtin "set.update.loop" ⟨[.ref S, .ref I], []⟩) R s := by
  have hSw : S ∉ wr := fun h => hSf (W.sub _ h)
  have hsub : ∀ b ∈ wr, b ∈ S :: wr := fun b hb => List.mem_cons_of_mem _ hb
  intro k
  induction k with
  | zero =>
    intro i s hk' hi hst ⟨c, hc, hS⟩ hR
    have hin : i = n := by omega
    subst hin
    refine codeAny_builtin F.entry_set_update_loop ?_
    rw [Around.under_plainId F.plain_set_update_loop _]
    show wpAny _ A.in1 (pyNext (.ref I) >>= _) _ _ s
    refine wpAny_bind (W.done s _ _ hst fun s' hm => ?_)
    show wpAny _ A.in1 (ret Value.none) _ _ s'
    have e : ns.take i = ns := List.take_of_length_le (by omega)
    rw [e] at hS
    exact wpAny_pure (hR s' c (hm.mono hsub) hc (hS.at fun o e => hm.heap S o hSw e))
  | succ k ih =>
    intro i s hk' hi hst ⟨c, hc, hS⟩ hR
    have hlt : i < n := by omega
    refine codeAny_builtin F.entry_set_update_loop ?_
    rw [Around.under_plainId F.plain_set_update_loop _]
    show wpAny _ A.in1 (pyNext (.ref I) >>= _) _ _ s
    refine wpAny_bind (W.item i s _ _ hlt hst fun v s' hP hst' hm => ?_)
    obtain ⟨z, t, hz, rfl⟩ := hval i v hP
    have hS' : SetX w s'.heap S (fun j => decide (j ∈ ns.take i)) c := hS.at fun o e => hm.heap S o hSw e
    show wpAny _ A.in1 (holding [Value.str z t] (setAdd S (.str z t)) >>= _) _ _ s'
    refine wpAny_bind (wpAny_holding ?_)
    unfold setAdd
    refine wpAny_holding ?_
    refine wpAny_bind ((PySem.strKind P w).pyHash (k := z) (is_strX _ _) ?_)
    refine addX_hashed (s := { s' with toks := s'.toks + 1 }) hS' (by omega) fun h' hsb hS2 => ?_
    have hS3 : SetX w h' S (fun j => decide (j ∈ ns.take (i + 1))) (if decide (z ∈ ns.take i) = true then c else c + 1) := hS2.congr fun j => by
      rw [List.take_add_one, hz]
      simp [List.mem_append]
    have hc3 : (if decide (z ∈ ns.take i) = true then c else c + 1) ≤ i + 1 := by
      split <;> omega
    refine wpAny_pure ⟨plainId_quiet F.plain_set_update_loop _, ih (i + 1) _ (by omega) hlt (W.frame _ s' _ _ hst' (Nat.le_succ _) fun b hb o e => ?_) ⟨_, hc3, hS3⟩ fun s'' c2 hm'' hc'' hS'' => ?_⟩
    · rw [hsb.2 b (fun h : b = S => hSf (by rw [← h]; exact hb))]; exact e
    · refine hR s'' c2 (Moved.trans W.gtrans ((hm.mono hsub).then_heap (Nat.le_succ _) fun b o hb e => ?_) hm'') hc'' hS''
      rw [hsb.2 b (fun h : b = S => hb (by rw [h]; exact List.mem_cons_self))]; exact e

theorem newX_at {ns : List Str} {h : Heap} (ho : h.get? a = some { cls := .type "set", dict := none, data := .set #[] 0 (.fresh 0 0 (!w.params.followText "set-order")) }) : SetX w h a (fun j => decide (j ∈ ns.take 0)) 0 :=
  ⟨_, #[], 0, _, ho, ⟨rfl, rfl, rfl⟩, rfl, (fun e he => by simp at he), (by simp), (fun k => by simp), (by decide), (by rfl), rfl, List.Pairwise.nil, by
    show _ ∨ (!w.params.followText "set-order") = true
    cases w.params.followText "set-order" <;> simp⟩
set_option maxRecDepth 100000 in
set_option maxHeartbeats 3200000 in
theorem call_set_lstX {l : Addr} {items : Array Value} (ns : List Str) {Q : Value → Shared → Prop} (hh : A.handled = none) (hl : s.heap.IsList l items) (hit : StrsAre items.toList ns) (hb : ns.length + 1 < scanBound)
    (h : ∀ (h' : Heap) (tk c : Nat), SetX w h' s.heap.objs.size (fun j => decide (j ∈ ns)) c → c ≤ ns.length → (∀ b o, s.heap.get? b = some o → h'.get? b = some o) → Q (.ref s.heap.objs.size) { s with heap := h', toks := tk }) :
    wpAny (model P w) A (call (.type "set") [.ref l]) Q E s := by
  have hisz : items.size = ns.length := by
    have q := StrsAre.length hit
    rw [Array.length_toList] at q
    exact q
  obtain ⟨c, tl, hmro⟩ := F.called_set.mro
  have hmade := F.called_set.made
  have hsub := F.called_set.sub
  refine wpAny_call (codeAny_of_tree ?_)
  show wpAny _ _ (callAny (.type "set") _) _ _ _
  refine wpAny_pure ⟨Code.quiet_builtin _ (by decide +kernel), codeAny_builtin F.entry_type_call ?_⟩
  rw [Around.under_plain (weight_type_call_type "set" [.ref l] []) rfl]
  have h1 := F.called_set.notType
  have h2 := F.called_set.canCreate
  have hct := F.typeCall_set_1 (.ref l)
  repeat (any_goals (first | assumption | wp_step))

  refine codeAny_mono (code_set_led1 (.ref l) (E := E) (Q₁ := fun obj s₁ => obj = .ref s.heap.objs.size ∧ s₁ = { s with heap := s.heap.push { cls := .type "set", dict := none, data := .set #[] 0 (.fresh 0 0 (!w.params.followText "set-order")) } }) ⟨rfl, rfl⟩) fun r s₁ hr => ?_
  cases r with
  | error e => exact hr
  | ok fl =>
    cases fl with
    | ret obj =>
      obtain ⟨rfl, rfl⟩ := hr
      have hS : (s.heap.push { cls := .type "set", dict := none, data := .set #[] 0 (.fresh 0 0 (!w.params.followText "set-order")) }).get? s.heap.objs.size = some { cls := .type "set", dict := none, data := .set #[] 0 (.fresh 0 0 (!w.params.followText "set-order")) } := Heap.get?_push_size _ rfl
      have hT : Shared.TypeIs { s with heap := s.heap.push { cls := .type "set", dict := none, data := .set #[] 0 (.fresh 0 0 (!w.params.followText "set-order")) } } (.ref s.heap.objs.size) "set" := ⟨_, hS, rfl⟩
      have hli := F.called_set.init.lookup
      have hbi := F.called_set.init.bind (.ref s.heap.objs.size)
      repeat (any_goals (first | assumption | wp_step))

      refine codeAny_mono (codeAny_call_builtin (R := wants (fun r s₂ => r = .none ∧ ∃ h' tk c, s₂ = { s with heap := h', toks := tk } ∧ SetX w h' s.heap.objs.size (fun j => decide (j ∈ ns)) c ∧ c ≤ ns.length ∧
          (∀ b o, s.heap.get? b = some o → h'.get? b = some o)) E) F.called_set.init.plain F.entry_set_init (check_set_init_1 hT ?_)) fun r₂ s₂ hr₂ => ?_
      · obtain ⟨ol, hol, hcl, nl, hdl⟩ := hl
        obtain ⟨ocls, odict, odata, oslots⟩ := ol
        simp only at hcl hdl
        subst hcl; subst hdl
        have hol' : (s.heap.push { cls := .type "set", dict := none, data := .set #[] 0 (.fresh 0 0 (!w.params.followText "set-order")) }).get? l = some { cls := .type "list", dict := odict, data := .seq items nl, slots := oslots } := Heap.get?_push_of_some _ hol
        have hsls := F.sub_list_set
        have hslf := F.sub_list_frozenset
        have hne : (Value.type "list" == Value.type "dict") = false := by decide
        have hl1 : (s.heap.push { cls := .type "set", dict := none, data := .set #[] 0 (.fresh 0 0 (!w.params.followText "set-order")) }).IsList l items := ⟨_, hol', rfl, nl, rfl⟩
        unfold Builtin.«set.__init__» noKeywords Builtin.Frozenset.updateFrom
        generalize hPI : pyIter = PI
        wp_walk
        subst hPI

        refine wpAny_pyIter_list hl1 ?_
        refine wpAny_bind (wpAny_runValue ?_)
        have hlS : l < s.heap.objs.size := Heap.lt_size hol
        have hh3 : A.in1.in1.in1.handled = none := by simp [hh]
        have hz1 : (s.heap.push { cls := .type "set", dict := none, data := .set #[] 0 (.fresh 0 0 (!w.params.followText "set-order")) }).objs.size = s.heap.objs.size + 1 := Heap.size_push ..
        have hneI : l ≠ (s.heap.push { cls := .type "set", dict := none, data := .set #[] 0 (.fresh 0 0 (!w.params.followText "set-order")) }).objs.size := by
          rw [Heap.size_push]; exact Nat.ne_of_lt (Nat.lt_succ_of_lt hlS)
        have hSf : s.heap.objs.size ∉ [(s.heap.push { cls := .type "set", dict := none, data := .set #[] 0 (.fresh 0 0 (!w.params.followText "set-order")) }).objs.size, l] := by
          rw [Heap.size_push]; simp only [List.mem_cons, List.mem_singleton, List.not_mem_nil, or_false, not_or]
          exact ⟨Nat.ne_of_lt (Nat.lt_succ_self _), Nat.ne_of_gt hlS⟩
        have hval : ∀ (i : Nat) (v : Value), items[i]? = some v → ∃ k t, ns[i]? = some k ∧ v = .str k t := fun i v hv => by
          have hi : i < ns.length := by rw [← hisz]; exact (Array.getElem?_eq_some_iff.mp hv).1
          obtain ⟨t, e⟩ := SS.strs_at hit i v (by rw [Array.getElem?_toList]; exact hv)
          refine ⟨ns[i], t, List.getElem?_eq_getElem hi, ?_⟩
          rw [e, List.getD_eq_getElem?_getD, List.getElem?_eq_getElem hi] <;> rfl
        refine update_strs ((Walks.list hh3 _ l hneI items).toS) s.heap.objs.size
          hSf ns hisz hb hval (items.size - 0) 0 _ (by omega) (Nat.zero_le _)
          ⟨⟨_, Heap.get?_push_size _ rfl, rfl, rfl⟩, (hl1.push _)⟩ ?hS0 ?hR
        case hS0 =>
          have hget : ((s.heap.push { cls := .type "set", dict := none, data := .set #[] 0 (.fresh 0 0 (!w.params.followText "set-order")) }).push { cls := .type "list_iterator", data := .fields #[.ref l, .int 0 0] }).get? s.heap.objs.size
              = some { cls := .type "set", dict := none, data := .set #[] 0 (.fresh 0 0 (!w.params.followText "set-order")) } := Heap.get?_push_of_some _ hS
          exact ⟨0, Nat.le_refl 0, newX_at hget⟩
        case hR =>
          intro s' c' hm hc' hS'
          obtain ⟨h', g2, d', tk', os'⟩ := s'
          have eg : g2 = s.gens := hm.gens
          have ed : d' = s.drawn := hm.drawn
          have eo : os' = s.os := hm.os
          subst eg; subst ed; subst eo
          show wpAny _ _ _ _ _ _
          refine wpAny_pure ?_
          show wpAny _ _ (ret Value.none) _ _ _
          rw [hisz] at hc'
          refine wpAny_pure ⟨rfl, h', tk', c', rfl, hS', hc', fun b o e => ?_⟩
          have hb0 : b < s.heap.objs.size := Heap.lt_size e
          have hb1 : b ≠ s.heap.objs.size := Nat.ne_of_lt hb0
          have hb2 : b ≠ (s.heap.push { cls := .type "set", dict := none, data := .set #[] 0 (.fresh 0 0 (!w.params.followText "set-order")) }).objs.size := by
            rw [Heap.size_push]; exact Nat.ne_of_lt (Nat.lt_succ_of_lt hb0)
          exact hm.heap b o (by simp only [List.mem_cons, List.mem_singleton, List.not_mem_nil, or_false, not_or]; exact ⟨hb1, hb2⟩) (Heap.get?_push_of_some _ (Heap.get?_push_of_some _ e))

      · cases r₂ with
        | error e => exact hr₂
        | ok fl₂ =>
          cases fl₂ with
          | ret r =>
            obtain ⟨rfl, h', tk, c', rfl, hS', hc', hk'⟩ := hr₂
            repeat (any_goals (first | assumption | wp_step))
            exact h _ _ _ hS' hc' hk'
          | _ => exact hr₂.elim
    | _ => exact hr.elim

end
end Sx

set_option Elab.async false
set_option linter.all false
set_option maxRecDepth 100000
set_option maxHeartbeats 4000000
/-! Dn42: sorted(set(xs)), xs texts -/
namespace Sx
open PySem PySem.Spec PyProof.Rows L2
section
variable {P : Program} {w : World} {A : Around} {E : Value → Shared → Prop} {s : Shared} {a : Addr} {S : Str → Bool} {n : Nat}
open PySem.W in
theorem sorted_setX {Q : Value → Shared → Prop} (R : SetX w s.heap a S n) (hh : A.handled = none) (hu : A.units + 5 < cLine)
    (hQ : ∀ (s' : Shared) (p : Addr) (out : List Value) (c : Nat) (xs : List (List Nat)), (∀ b o, s.heap.get? b = some o → s'.heap.get? b = some o) → s'.gens = s.gens → s'.os = s.os → s.heap.objs.size ≤ p →
      s'.heap.get? p = some (seqObj "list" out.toArray c) → EachIs (fun v x => ∃ t, v = Value.str (⟨x.toArray⟩ : Str) t) out (Dn.sortT .str xs) → xs.Nodup → (∀ x : List Nat, x ∈ xs ↔ S ⟨x.toArray⟩ = true) → xs.length = n → Q (.ref p) s') :
    wpAny (model P w) A (call (.builtin "sorted") [.ref a]) Q E s := by
  obtain ⟨o, es, ep, t, ho, hex, hd, g, nd, hm, hb, hf, hn, hr, hl⟩ := R
  refine Calls.call_function_entry kind_sorted plain_sorted entry_sorted (args_sorted1 _) ?_
  unfold Builtin.«sorted»
  refine wpAny_bind (m := checkCount "sorted" 1 1 _) (wpAny_pure ?_)
  refine wpAny_bind (collect_set (A := A.in1) hh ⟨o, ho, hex.1, hd⟩ hf hb hr hl fun s1 vs k1 hz g1 o1 pm => ?_)
  have hvl : vs.length = n := by rw [pm.length_eq, List.length_map, Array.length_toList]; exact hn
  have hsl : vs.length ≤ sizeLine := by rw [hvl, ← hn]; exact fits_of_scanBound hb
  have each : ∀ l : List Value, (∀ v ∈ l, ∃ k tk, v = Value.str k tk) → EachIs (fun v x => ∃ t, v = Value.str (⟨x.toArray⟩ : Str) t) l (l.map fun v => (keyS (0, v)).cps.toList) := by
    intro l
    induction l with
    | nil => intro _; exact .nil
    | cons v l ih =>
      intro h
      obtain ⟨k, tk, rfl⟩ := h v (List.mem_cons_self ..)
      exact .cons ⟨tk, rfl⟩ (ih fun u hu => h u (List.mem_cons_of_mem _ hu))
  have hE := each vs fun v hv => by
    obtain ⟨e, he, q⟩ := List.mem_map.mp (pm.mem_iff.mp hv)
    obtain ⟨k, tk, h1, _⟩ := g e he
    exact ⟨k, tk, by rw [← q]; exact h1⟩
  have pk : (vs.map fun v => (keyS (0, v)).cps.toList).Perm ((es.toList.map keyS).map fun k => k.cps.toList) := by
    have q := pm.map fun v => (keyS (0, v)).cps.toList
    rw [List.map_map] at q
    rw [List.map_map]
    exact q
  generalize hbs : (vs.map fun v => (keyS (0, v)).cps.toList) = bs at hE pk
  have hbl : bs.length = n := by rw [← hbs, List.length_map]; exact hvl
  refine wpAny_bind (wpAny_newList ?_ hsl)
  have hoL : (s1.heap.push (seqObj "list" vs.toArray 0)).get? s1.heap.objs.size = some (seqObj "list" vs.toArray 0) := Heap.get?_push_size _ rfl
  refine wpAny_bind (wpAny_holding (list_sort_data (A := A.in1) (s := { s1 with heap := s1.heap.push (seqObj "list" vs.toArray 0) }) (enc := Dn.toPy .str) hoL hE (hE.mono fun v x ⟨t, e⟩ => ⟨[], by rw [e]; exact .str _ _, by simp⟩) (AllAlike.of (Dn.alike_of .str rfl)) (Dn.sortable (t := .str) rfl bs) (by rw [hbl, ← hn]; exact fits_of_scanBound hb)
    (fun b hb => by show A.units + 1 + 1 + 0 < _; omega) fun out hl2 ho2 => ?_))
  rw [Dn.le_data (t := .str) rfl] at ho2
  refine wpAny_pure ⟨_, rfl, ?_⟩
  obtain ⟨c, hc⟩ := sortedHeap_at (vs := vs) (out := out.toArray) hoL
  have inj : ∀ x y : Str, x.cps.toList = y.cps.toList → x = y := fun x y e => by
    cases x; cases y
    simp only [Array.toList_inj] at e
    rw [e]
  refine hQ _ s1.heap.objs.size out c bs (fun b u e => ?_) g1 o1 hz hc ho2 ?_ (fun x => ?_) hbl
  · have q := k1 b u e
    have hlt := Heap.lt_size q
    show (sortedHeap (s1.heap.push (seqObj "list" vs.toArray 0)) s1.heap.objs.size vs out.toArray).get? b = some u
    rw [sortedHeap_old (Nat.ne_of_lt hlt) (by rw [size_push']; exact Nat.lt_succ_of_lt hlt)]
    exact Heap.get?_push_of_some _ q
  · rw [pk.nodup_iff]
    refine List.Pairwise.map _ (fun x y ne e => ne (inj x y e)) nd
  · rw [pk.mem_iff, hm, List.mem_map]
    constructor
    · rintro ⟨k, hk, rfl⟩
      have e : (⟨k.cps.toList.toArray⟩ : Str) = k := by cases k; simp
      rw [e]; exact hk
    · intro h
      exact ⟨_, h, by simp⟩
end
end Sx
namespace Dn
open PySem PySem.Spec PyProof.Rows L2 Sx
/-- the members, each once -/
def nubS : List (List Nat) → List (List Nat)
  | [] => []
  | x :: l => if x ∈ nubS l then nubS l else x :: nubS l
theorem mem_nubS {x : List Nat} : ∀ {l : List (List Nat)}, x ∈ nubS l ↔ x ∈ l
  | [] => Iff.rfl
  | y :: l => by
    unfold nubS
    split
    · rename_i h
      rw [mem_nubS, List.mem_cons]
      exact ⟨.inr, fun q => q.elim (fun e => by rw [e]; exact mem_nubS.mp h) id⟩
    · rw [List.mem_cons, List.mem_cons, mem_nubS]
theorem nubS_nodup : ∀ l : List (List Nat), (nubS l).Nodup
  | [] => .nil
  | y :: l => by
    unfold nubS
    split
    · exact nubS_nodup l
    · rename_i h
      exact List.nodup_cons.mpr ⟨h, nubS_nodup l⟩
theorem nubS_len : ∀ l : List (List Nat), (nubS l).length ≤ l.length
  | [] => Nat.le_refl _
  | y :: l => by
    unfold nubS
    have := nubS_len l
    split
    · rw [List.length_cons]; omega
    · rw [List.length_cons, List.length_cons]; omega
/-- sorted(set(xs)) -/
def ssetS (xs : List (List Nat)) : List (List Nat) := sortT .str (nubS xs)
theorem leS_iff {x y : List Nat} : leT .str x y = true ↔ x ≤ y := by
  show (!decide (y < x)) = true ↔ _
  rw [Bool.not_eq_true', decide_eq_false_iff_not]
  exact Iff.rfl
theorem sortS_perm {l m : List (List Nat)} (h : l.Perm m) : sortT .str l = sortT .str m := by
  have tr : ∀ x y z : List Nat, leT .str x y = true → leT .str y z = true → leT .str x z = true := fun x y z h1 h2 => leS_iff.mpr (List.le_trans (leS_iff.mp h1) (leS_iff.mp h2))
  have to : ∀ x y : List Nat, (leT .str x y || leT .str y x) = true := fun x y => by
    rw [Bool.or_eq_true, leS_iff, leS_iff]
    exact List.le_total x y
  refine PySem.W.Srt.the_of_perm (leT .str) tr to (fun x y h1 h2 => List.le_antisymm (leS_iff.mp h1) (leS_iff.mp h2)) ((List.mergeSort_perm l _).trans h) (List.pairwise_mergeSort tr to l)
section
variable {X : Cx} {e : Expr} {p p2 pos pos2 : Pos} {Γ Γ1 : List Slot} {xs : List (List Nat)}
theorem repL_strs {K : PySem.W.Frag} {G : Hp} : ∀ {vs : List V} {xs : List (List Nat)}, RepL K .str G vs xs → vs = xs.map vS
  | _, _, .nil => rfl
  | _, _, .cons r t => by rw [List.map_cons, ← repL_strs t, r]
theorem repL_vS {K : PySem.W.Frag} {G : Hp} : ∀ xs : List (List Nat), RepL K .str G (xs.map vS) xs
  | [] => .nil
  | x :: xs => .cons rfl (repL_vS xs)
def SetXO (w : World) (a : Addr) (S : Str → Bool) (n : Nat) : HO := .ext fun h => SetX w h a S n
def rSetLX (K : PySem.W.Frag) (w : World) : List V → Hp → VK → Prop := fun vs H Q => ∃ (p : Addr) (xs : List (List Nat)), vs = [.ref p] ∧ SqL K H p (xs.map vS) ∧ xs.length ≤ 4000 ∧ ∀ a n, H a = none → Q (.ref a) (upd H a (SetXO w a (fun j => decide (j ∈ xs.map fun x => (⟨x.toArray⟩ : Str))) n))
theorem strs_vals : ∀ {xs : List (List Nat)} {us : List Value}, Vals (xs.map vS) us → StrsAre us (xs.map fun x => (⟨x.toArray⟩ : Str))
  | [], _, .nil => .nil
  | _ :: _, _, .cons r t => by
    obtain ⟨tk, rfl⟩ := r
    exact .cons _ tk (strs_vals t)
theorem cr_setLX (hc : X.calm = true) : CallR X (.type "set") (rSetLX X.K X.w) := by
  intro pins s σ H vs us Q I r h
  obtain ⟨p, xs, rfl, hq, hl, q⟩ := h
  rw [Vals.ref1 r]
  obtain ⟨its, rv, pl, hz⟩ := I.list hq
  refine call_set_lstX (xs.map fun x => (⟨x.toArray⟩ : Str)) (I.ok.hd hc) pl.isList (by simpa using strs_vals rv) (by rw [List.length_map]; unfold scanBound; omega) fun h' tk c R1 hcn k => ?_
  have new : ObjOk X.prog X.w (upd H s.heap.objs.size (SetXO X.w s.heap.objs.size (fun j => decide (j ∈ xs.map fun x => (⟨x.toArray⟩ : Str))) c)) h' s.heap.objs.size (SetXO X.w s.heap.objs.size (fun j => decide (j ∈ xs.map fun x => (⟨x.toArray⟩ : Str))) c) := by
    have ⟨o, _, _, _, ho, _⟩ := R1
    exact ⟨R1, ⟨o, ho⟩, fun h1 h2 p k => SetX.at p k⟩
  exact ⟨.ref _, upd H s.heap.objs.size _, I.laid (t' := tk) k (Nat.le_refl _) new, rfl, q _ _ (I.hok.fresh (Nat.le_refl _))⟩
def rSortedX (w : World) : List V → Hp → VK → Prop := fun vs H Q => ∃ (a : Addr) (xs : List (List Nat)) (n : Nat), vs = [V.ref a] ∧ H a = some (SetXO w a (fun j => decide (j ∈ xs.map fun x => (⟨x.toArray⟩ : Str))) n) ∧ ∀ p : Addr, H p = none → Q (.ref p) (upd H p (.lst ((ssetS xs).map vS)))
open PySem.W in
theorem strs_back : ∀ {us : List Value} {xs : List (List Nat)}, EachIs (fun v x => ∃ t, v = Value.str (⟨x.toArray⟩ : Str) t) us xs → Vals (xs.map vS) us
  | _, _, .nil => .nil
  | _, _, .cons r t => by
    obtain ⟨tk, rfl⟩ := r
    exact .cons ⟨tk, rfl⟩ (strs_back t)
theorem cr_sortedX {k : Nat} (hr : RoomG k X.A) (hc : X.calm = true) : CallR X (.builtin "sorted") (rSortedX X.w) := by
  intro pins s σ H vs us Q I r h
  obtain ⟨a, xs, n, rfl, ha, q⟩ := h
  have R : SetX X.w s.heap a (fun j => decide (j ∈ xs.map fun x => (⟨x.toArray⟩ : Str))) n := (I.hok a _ ha).1
  have hb : n < scanBound := by
    obtain ⟨_, _, _, _, _, _, _, _, _, _, h1, _, h2, _⟩ := R
    rw [← h2]; exact h1
  rw [Vals.ref1 r]
  refine sorted_setX R (I.ok.hd hc) (by have := hr.units; omega) fun s' p out c ys k g o hp hg hE hnd hm hlen => ?_
  have pm : ys.Perm (nubS xs) := (List.perm_ext_iff_of_nodup hnd (nubS_nodup xs)).mpr fun x => by
    rw [hm, mem_nubS, decide_eq_true_eq, List.mem_map]
    constructor
    · rintro ⟨y, hy, e⟩
      injection e with e
      have e := List.toArray_inj e
      rw [← e]; exact hy
    · intro h; exact ⟨x, h, rfl⟩
  have e1 : sortT .str ys = ssetS xs := sortS_perm pm
  rw [e1] at hE
  have hl2 : ((ssetS xs).map vS).length ≤ sizeLine := by
    rw [List.length_map, ← e1]
    unfold sortT
    rw [List.length_mergeSort, hlen]
    exact fits_of_scanBound hb
  have hn : H p = none := I.hok.fresh hp
  have J : Inv X pins σ (upd H p (.lst ((ssetS xs).map vS))) { s with heap := s'.heap, gens := s'.gens, drawn := s'.drawn, toks := s'.toks } :=
    I.call (ch := []) (Un.laid k hp hn) (I.hok.laid k hp ⟨hl2, out, c, strs_back hE, hg⟩) (by rw [g]; exact I.bare) (fun _ z => nomatch z)
  have e : s' = { s with heap := s'.heap, gens := s'.gens, drawn := s'.drawn, toks := s'.toks } := by
    cases s'
    cases s
    cases o
    rfl
  rw [e]
  exact ⟨.ref p, _, J, rfl, q p hn⟩
theorem do_ssetS {k : Nat} (hr : RoomG k X.A) (hm : X.mg "sorted" = none) (hm2 : X.mg "set" = none) (hz : xs.length ≤ 4000) (h : DL X e Γ .str xs Γ1) (hc : X.calm = true := by rfl) (hg : Gl X "sorted" := by rfl) (hg2 : Gl X "set" := by rfl)
    (hs : starEach [e] X.env = (false, eval e X.env) :: starEach [] X.env := by rfl) (hpl : (backTo pos2 (starEach [] X.env)).any (·.1) = false := by rfl)
    (hs2 : starEach [.Call (.Name "set" p2) [e] [] pos2] X.env = (false, eval (.Call (.Name "set" p2) [e] [] pos2) X.env) :: starEach [] X.env := by rfl) (hpl2 : (backTo pos (starEach [] X.env)).any (·.1) = false := by rfl) :
    DO X (.Call (.Name "sorted" p) [.Call (.Name "set" p2) [e] [] pos2] [] pos) Γ (.lst .str (ssetS xs)) Γ1 := fun F G σ H W Q q =>
  wpe_of (pe_callB (cr_sortedX hr hc) hg hm (by decide +kernel) pa_wp (by decide) (by decide) hs2 hpl2) (wpa_one hs2
    (wpe_of (pe_callTy (cr_setLX hc) hg2 hm2 (by decide +kernel) pa_wp (by decide) (by decide) hs hpl) (wpa_one hs (h F G σ H W _ fun a vs G1 H1 s1 W1 h1 h2 => by
      have e1 := repL_strs h2
      subst e1
      refine ⟨a, xs, rfl, h1, hz, fun b n hb => ⟨b, xs, n, rfl, upd_same, fun l hl => ?_⟩⟩
      have W2 := (W1.new (ho := SetXO X.w b (fun j => decide (j ∈ xs.map fun x => (⟨x.toArray⟩ : Str))) n) hb).drop (W1.tn hb)
      exact q l _ G1 _ s1 (W2.new hl) (W2.tn hl) ⟨_, rfl, repL_vS _⟩))))
end
end Dn

set_option Elab.async false
set_option linter.all false
set_option maxRecDepth 100000
set_option maxHeartbeats 1000000
/-! Dn43: tuple(t) of a tuple -/
namespace Dn
open PySem PySem.Spec PyProof.Rows L2
section
variable {X : Cx} {e : Expr} {p pos : Pos} {Γ Γ1 : List Slot} {t : Ty} {xs : List t.den}
theorem de_tupleU (hm : X.mg "tuple" = none) (h : DE X e Γ (.tup t) xs Γ1) (hg : Gl X "tuple" := by rfl) (hs : starEach [e] X.env = (false, eval e X.env) :: starEach [] X.env := by rfl) (hpl : (backTo pos (starEach [] X.env)).any (·.1) = false := by rfl) : DE X (.Call (.Name "tuple" p) [e] [] pos) Γ (.tup t) xs Γ1 := fun F G σ H W Q q =>
  wpe_of (pe_callTy call_tupleT hg hm (by decide +kernel) pa_wp (by decide) (by decide) hs hpl) (wpa_one hs (h F G σ H W _ fun v G1 H1 s1 W1 r1 => by
    obtain ⟨a, vs, rfl, h1, h2⟩ := id r1
    exact ⟨a, vs, rfl, sqt_mono W1.gh h1.t, q _ G1 H1 s1 W1 r1⟩))
end
end Dn

set_option Elab.async false
set_option linter.all false
set_option maxRecDepth 100000
set_option maxHeartbeats 4000000
/-! Dn44: sorted(set(x)), x a text -/
namespace Sx
open PySem PySem.Spec PyProof.Rows L2
section
variable {P : Program} {w : World} {A : Around} {E : Value → Shared → Prop} {s : Shared}
set_option maxRecDepth 100000 in
set_option maxHeartbeats 3200000 in
theorem call_set_txtX {x : Str} {u0 : Tok} (ns : List Str) {Q : Value → Shared → Prop} (hh : A.handled = none) (hns : ns = x.cps.toList.map fun c => (⟨#[c]⟩ : Str)) (hb : ns.length + 1 < scanBound)
    (h : ∀ (h' : Heap) (tk c : Nat), SetX w h' s.heap.objs.size (fun j => decide (j ∈ ns)) c → c ≤ ns.length → (∀ b o, s.heap.get? b = some o → h'.get? b = some o) → Q (.ref s.heap.objs.size) { s with heap := h', toks := tk }) :
    wpAny (model P w) A (call (.type "set") [.str x u0]) Q E s := by
  have hisz : x.cps.size = ns.length := by rw [hns, List.length_map, Array.length_toList]
  obtain ⟨c, tl, hmro⟩ := F.called_set.mro
  have hmade := F.called_set.made
  have hsub := F.called_set.sub
  refine wpAny_call (codeAny_of_tree ?_)
  show wpAny _ _ (callAny (.type "set") _) _ _ _
  refine wpAny_pure ⟨Code.quiet_builtin _ (by decide +kernel), codeAny_builtin F.entry_type_call ?_⟩
  rw [Around.under_plain (weight_type_call_type "set" [.str x u0] []) rfl]
  have h1 := F.called_set.notType
  have h2 := F.called_set.canCreate
  have hct := F.typeCall_set_1 (.str x u0)
  repeat (any_goals (first | assumption | wp_step))

  refine codeAny_mono (code_set_led1 (.str x u0) (E := E) (Q₁ := fun obj s₁ => obj = .ref s.heap.objs.size ∧ s₁ = { s with heap := s.heap.push { cls := .type "set", dict := none, data := .set #[] 0 (.fresh 0 0 (!w.params.followText "set-order")) } }) ⟨rfl, rfl⟩) fun r s₁ hr => ?_
  cases r with
  | error e => exact hr
  | ok fl =>
    cases fl with
    | ret obj =>
      obtain ⟨rfl, rfl⟩ := hr
      have hS : (s.heap.push { cls := .type "set", dict := none, data := .set #[] 0 (.fresh 0 0 (!w.params.followText "set-order")) }).get? s.heap.objs.size = some { cls := .type "set", dict := none, data := .set #[] 0 (.fresh 0 0 (!w.params.followText "set-order")) } := Heap.get?_push_size _ rfl
      have hT : Shared.TypeIs { s with heap := s.heap.push { cls := .type "set", dict := none, data := .set #[] 0 (.fresh 0 0 (!w.params.followText "set-order")) } } (.ref s.heap.objs.size) "set" := ⟨_, hS, rfl⟩
      have hli := F.called_set.init.lookup
      have hbi := F.called_set.init.bind (.ref s.heap.objs.size)
      repeat (any_goals (first | assumption | wp_step))

      refine codeAny_mono (codeAny_call_builtin (R := wants (fun r s₂ => r = .none ∧ ∃ h' tk c, s₂ = { s with heap := h', toks := tk } ∧ SetX w h' s.heap.objs.size (fun j => decide (j ∈ ns)) c ∧ c ≤ ns.length ∧
          (∀ b o, s.heap.get? b = some o → h'.get? b = some o)) E) F.called_set.init.plain F.entry_set_init (check_set_init_1 hT ?_)) fun r₂ s₂ hr₂ => ?_
      · have hsls := F.sub_str_set
        have hslf := F.sub_str_frozenset
        have hne : (Value.type "str" == Value.type "dict") = false := by decide
        unfold Builtin.«set.__init__» noKeywords Builtin.Frozenset.updateFrom
        generalize hPI : pyIter = PI
        wp_walk
        subst hPI
        refine wpAny_pyIter_str fun oI St WW st0 => ?_
        refine wpAny_bind (wpAny_runValue ?_)
        have hh3 : A.in1.in1.in1.handled = none := by simp [hh]
        have hSf : s.heap.objs.size ∉ [(s.heap.push { cls := .type "set", dict := none, data := .set #[] 0 (.fresh 0 0 (!w.params.followText "set-order")) }).objs.size] := by
          rw [Heap.size_push]; simp only [List.mem_singleton]
          exact Nat.ne_of_lt (Nat.lt_succ_self _)
        have hval : ∀ (i : Nat) (v : Value), SignAt x i v → ∃ k t, ns[i]? = some k ∧ v = .str k t := fun i v ⟨c, u, hc, e⟩ =>
          ⟨⟨#[c]⟩, u, by rw [hns, List.getElem?_map, Array.getElem?_toList, hc]; rfl, e⟩
        refine update_strs ((WW _ hh3).toS) s.heap.objs.size hSf ns hisz hb hval (x.cps.size - 0) 0 _ (by omega) (Nat.zero_le _) st0 ?hS0 ?hR
        case hS0 =>
          have hget := Heap.get?_push_of_some oI hS
          exact ⟨0, Nat.le_refl 0, newX_at hget⟩
        case hR =>
          intro s' c' hm hc' hS'
          obtain ⟨h', g2, d', tk', os'⟩ := s'
          have eg : g2 = s.gens := hm.gens
          have ed : d' = s.drawn := hm.drawn
          have eo : os' = s.os := hm.os
          subst eg; subst ed; subst eo
          show wpAny _ _ _ _ _ _
          refine wpAny_pure ?_
          show wpAny _ _ (ret Value.none) _ _ _
          rw [hisz] at hc'
          refine wpAny_pure ⟨rfl, h', tk', c', rfl, hS', hc', fun b o e => ?_⟩
          have hb0 : b < s.heap.objs.size := Heap.lt_size e
          have hb1 : b ≠ s.heap.objs.size := Nat.ne_of_lt hb0
          have hb2 : b ≠ (s.heap.push { cls := .type "set", dict := none, data := .set #[] 0 (.fresh 0 0 (!w.params.followText "set-order")) }).objs.size := by
            rw [Heap.size_push]; exact Nat.ne_of_lt (Nat.lt_succ_of_lt hb0)
          exact hm.heap b o (by simp only [List.mem_cons, List.mem_singleton, List.not_mem_nil, or_false, not_or]; exact ⟨hb1, hb2⟩) (Heap.get?_push_of_some _ (Heap.get?_push_of_some _ e))

      · cases r₂ with
        | error e => exact hr₂
        | ok fl₂ =>
          cases fl₂ with
          | ret r =>
            obtain ⟨rfl, h', tk, c', rfl, hS', hc', hk'⟩ := hr₂
            repeat (any_goals (first | assumption | wp_step))
            exact h _ _ _ hS' hc' hk'
          | _ => exact hr₂.elim
    | _ => exact hr.elim

end
end Sx
namespace Dn
open PySem PySem.Spec PyProof.Rows L2 Sx
section
variable {X : Cx} {e : Expr} {p p2 pos pos2 : Pos} {Γ Γ1 : List Slot} {x : List Nat}
theorem chars_map (x : List Nat) : (chars x).map (fun c => (⟨c.toArray⟩ : Str)) = x.map fun c => (⟨#[c]⟩ : Str) := by
  unfold chars
  rw [List.map_map]; rfl
theorem cr_setTX (hc : X.calm = true) : CallR X (.type "set") (fun vs H Q => ∃ x : List Nat, vs = [vS x] ∧ x.length ≤ 4000 ∧ ∀ a n, H a = none → Q (.ref a) (upd H a (SetXO X.w a (fun j => decide (j ∈ (chars x).map fun x => (⟨x.toArray⟩ : Str))) n))) := by
  intro pins s σ H vs us Q I r h
  obtain ⟨x, rfl, hl, q⟩ := h
  cases r with
  | cons r1 rr =>
    cases rr
    obtain ⟨t, rfl⟩ := r1
    refine call_set_txtX ((chars x).map fun x => (⟨x.toArray⟩ : Str)) (I.ok.hd hc) (by rw [chars_map]) (by rw [chars_map, List.length_map]; unfold scanBound; omega) fun h' tk c R1 hcn k => ?_
    have new : ObjOk X.prog X.w (upd H s.heap.objs.size (SetXO X.w s.heap.objs.size (fun j => decide (j ∈ (chars x).map fun x => (⟨x.toArray⟩ : Str))) c)) h' s.heap.objs.size (SetXO X.w s.heap.objs.size (fun j => decide (j ∈ (chars x).map fun x => (⟨x.toArray⟩ : Str))) c) := by
      have ⟨o, _, _, _, ho, _⟩ := R1
      exact ⟨R1, ⟨o, ho⟩, fun h1 h2 p k => SetX.at p k⟩
    exact ⟨.ref _, upd H s.heap.objs.size _, I.laid (t' := tk) k (Nat.le_refl _) new, rfl, q _ _ (I.hok.fresh (Nat.le_refl _))⟩
theorem do_ssetT {k : Nat} (hr : RoomG k X.A) (hm : X.mg "sorted" = none) (hm2 : X.mg "set" = none) (hz : x.length ≤ 4000) (h : DE X e Γ .str x Γ1) (hc : X.calm = true := by rfl) (hg : Gl X "sorted" := by rfl) (hg2 : Gl X "set" := by rfl)
    (hs : starEach [e] X.env = (false, eval e X.env) :: starEach [] X.env := by rfl) (hpl : (backTo pos2 (starEach [] X.env)).any (·.1) = false := by rfl)
    (hs2 : starEach [.Call (.Name "set" p2) [e] [] pos2] X.env = (false, eval (.Call (.Name "set" p2) [e] [] pos2) X.env) :: starEach [] X.env := by rfl) (hpl2 : (backTo pos (starEach [] X.env)).any (·.1) = false := by rfl) :
    DO X (.Call (.Name "sorted" p) [.Call (.Name "set" p2) [e] [] pos2] [] pos) Γ (.lst .str (ssetS (chars x))) Γ1 := fun F G σ H W Q q =>
  wpe_of (pe_callB (cr_sortedX hr hc) hg hm (by decide +kernel) pa_wp (by decide) (by decide) hs2 hpl2) (wpa_one hs2
    (wpe_of (pe_callTy (cr_setTX hc) hg2 hm2 (by decide +kernel) pa_wp (by decide) (by decide) hs hpl) (wpa_one hs (h F G σ H W _ fun v G1 H1 s1 W1 r1 => by
      refine ⟨x, by rw [show v = vS x from r1], hz, fun b n hb => ⟨b, chars x, n, rfl, upd_same, fun l hl => ?_⟩⟩
      have W2 := (W1.new (ho := SetXO X.w b (fun j => decide (j ∈ (chars x).map fun x => (⟨x.toArray⟩ : Str))) n) hb).drop (W1.tn hb)
      exact q l _ G1 _ s1 (W2.new hl) (W2.tn hl) ⟨_, rfl, repL_vS _⟩))))
end
end Dn

set_option Elab.async false
set_option linter.all false
set_option maxRecDepth 100000
set_option maxHeartbeats 4000000
/-! Dn45: dicts with texts as keys: dict(a tuple of pairs), d.get(k, x) -/
namespace Dn
open PySem PySem.Spec PyProof.Rows L2
abbrev RepS (K : PySem.W.Frag) (t : Ty) (G : Hp) (ws : List (Key × V)) (kvs : List (List Nat × t.den)) : Prop := Paired (fun (w : Key × V) (y : List Nat × t.den) => w.1 = Sum.inr ⟨y.1.toArray⟩ ∧ Rep K t G w.2 y.2) ws kvs
def sget {α : Type} (kvs : List (List Nat × α)) (k : List Nat) : Option α := (kvs.find? fun p => decide (p.1 = k)).map (·.2)
/-- the later pairs win, the place is the first one's -/
def smerge {α : Type} (xs : List (List Nat × α)) : List (List Nat × α) := xs.foldl (fun acc p => kput acc p.1 p.2) []
section
variable {K : PySem.W.Frag} {G : Hp} {t : Ty}
theorem inrS {a b : List Nat} : (Sum.inr (⟨a.toArray⟩ : Str) : Key) = Sum.inr ⟨b.toArray⟩ ↔ a = b := by
  constructor
  · intro h
    have h := Sum.inr.inj h
    injection h with h
    exact List.toArray_inj h
  · rintro rfl; rfl
theorem inrS_dec {a b : List Nat} : decide ((Sum.inr (⟨a.toArray⟩ : Str) : Key) = Sum.inr ⟨b.toArray⟩) = decide (a = b) := by
  by_cases c : a = b
  · subst c; simp
  · rw [decide_eq_false c, decide_eq_false fun e => c (inrS.mp e)]
theorem repS_get {ws : List (Key × V)} {kvs : List (List Nat × t.den)} {k : List Nat} (r : RepS K t G ws kvs) : (sget kvs k = none → valV ws (Sum.inr ⟨k.toArray⟩) = none) ∧ ∀ y, sget kvs k = some y → ∃ v, valV ws (Sum.inr ⟨k.toArray⟩) = some v ∧ Rep K t G v y := by
  induction r with
  | nil => exact ⟨fun _ => rfl, fun y h => (by cases h)⟩
  | @cons w y ws kvs h _ ih =>
    obtain ⟨h1, h2⟩ := h
    unfold sget valV at *
    rw [List.find?_cons, List.find?_cons, h1, inrS_dec]
    cases c : decide (y.1 = k) with
    | true => exact ⟨fun h => (by cases h), fun z h => ⟨_, rfl, (by cases h; exact h2)⟩⟩
    | false => exact ih
theorem repS_any {ws : List (Key × V)} {kvs : List (List Nat × t.den)} {k : List Nat} (r : RepS K t G ws kvs) : (ws.any fun p => decide (p.1 = (Sum.inr ⟨k.toArray⟩ : Key))) = kvs.any fun p => decide (p.1 = k) := by
  induction r with
  | nil => rfl
  | @cons w y ws kvs h _ ih => rw [List.any_cons, List.any_cons, ih, h.1, inrS_dec]
theorem repS_map {k : List Nat} {v : V} {y : t.den} (rv : Rep K t G v y) : ∀ {ws : List (Key × V)} {kvs : List (List Nat × t.den)}, RepS K t G ws kvs → RepS K t G (ws.map fun kv => if kv.1 = Sum.inr ⟨k.toArray⟩ then (kv.1, v) else kv) (kvs.map fun p => if p.1 = k then (p.1, y) else p)
  | _, _, .nil => .nil
  | _, _, @Paired.cons _ _ _ w z ws kvs h r => by
    rw [List.map_cons, List.map_cons]
    refine .cons ?_ (repS_map rv r)
    by_cases c : z.1 = k
    · rw [if_pos c, if_pos (by rw [h.1, c])]; exact ⟨h.1, rv⟩
    · rw [if_neg c, if_neg fun e => c (by rw [h.1] at e; exact inrS.mp e)]; exact h
theorem repS_put {ws : List (Key × V)} {kvs : List (List Nat × t.den)} {k : List Nat} {v : V} {y : t.den} (r : RepS K t G ws kvs) (rv : Rep K t G v y) : RepS K t G (putK ws (Sum.inr ⟨k.toArray⟩) v) (kput kvs k y) := by
  unfold putK kput
  rw [repS_any r]
  split
  · exact repS_map rv r
  · exact pair_app r (.cons ⟨rfl, rv⟩ .nil)
theorem repS_merge : ∀ {ms : List (Key × V)} {xs : List (List Nat × t.den)} {ws : List (Key × V)} {kvs : List (List Nat × t.den)}, RepS K t G ms xs → RepS K t G ws kvs → RepS K t G (mergeK ws ms) (xs.foldl (fun acc p => kput acc p.1 p.2) kvs)
  | _, _, _, _, .nil, r => r
  | _, _, ws, kvs, @Paired.cons _ _ _ m x ms xs h q, r => by
    have e : mergeK ws (m :: ms) = mergeK (putK ws m.1 m.2) ms := rfl
    rw [e, List.foldl_cons, h.1]
    exact repS_merge q (repS_put r h.2)
end
section
variable {X : Cx}
theorem pairs_val {pins : List (Addr × Obj)} {σ : L2.St} {H : Hp} {s : Shared} (I : Inv X pins σ H s) : ∀ {ps : List Addr} {kvs : List (Key × V)}, Paired (fun p kv => H p = some (.tup [kV kv.1, kv.2])) ps kvs →
    ∃ (prs : List (Key × Value)) (pv : List (Value × Value)), KV kvs prs ∧ prs.length = ps.length ∧ pv.length = ps.length ∧ ∀ (j : Nat) (k v : Value), pv[j]? = some (k, v) → ∃ (b : Addr) (kk : Key), ps[j]? = some b ∧ IsTup s.heap b #[k, v] ∧ prs[j]? = some (kk, v) ∧ (mixKind X.prog X.w).is kk k = true
  | _, _, .nil => ⟨[], [], .nil, rfl, rfl, fun j k v e => by simp at e⟩
  | _, _, .cons (a := p) (b := kv) h t => by
    obtain ⟨prs, pv, r, hl, hl2, hp⟩ := pairs_val I t
    obtain ⟨its, rv, ht, _⟩ := I.tuple (tT h)
    cases rv with
    | @cons _ u _ _ ru rv =>
      cases rv with
      | @cons _ y _ _ ry rv =>
        cases rv
        refine ⟨(kv.1, y) :: prs, (u, y) :: pv, .cons ⟨rfl, ry⟩ r, by rw [List.length_cons, List.length_cons, hl], by rw [List.length_cons, List.length_cons, hl2], fun j k v e => ?_⟩
        cases j with
        | zero =>
          have e : (u, y) = (k, v) := Option.some.inj e
          cases e
          exact ⟨p, kv.1, rfl, ht, rfl, kV_is (P := X.prog) (w := X.w) ru⟩
        | succ j =>
          obtain ⟨b, kk, e1, e2, e3, e4⟩ := hp j k v (by simpa using e)
          exact ⟨b, kk, by simpa using e1, e2, by simpa using e3, e4⟩
theorem cr_dictT (hcalm : X.calm = true) : CallR X (.type "dict") (fun xs H Q => ∃ (a : Addr) (ps : List Addr) (kvs : List (Key × V)), xs = [.ref a] ∧ TupD H a (ps.map V.ref) ∧ Paired (fun p kv => H p = some (.tup [kV kv.1, kv.2])) ps kvs ∧
    ∀ p, H p = none → Q (.ref p) (upd H p (.dK (mergeK [] kvs)))) := by
  intro pins s σ H xs us Q I r q
  obtain ⟨a, ps, kvs, ex, ⟨o, ho, hdn⟩, hp, q⟩ := q
  subst ex
  rw [Vals.ref1 r]
  obtain ⟨hget, hz, its, rv, ⟨o', ho', hc, n, hdat⟩⟩ := (show ObjOk X.prog X.w H s.heap a (.frz o (.tup (ps.map V.ref))) from I.hok a _ ho)
  rw [hget] at ho'; cases ho'
  have ei := refs_at rv
  subst ei
  rw [List.length_map] at hz
  obtain ⟨prs, pv, rel, hl, hl2, hpr⟩ := pairs_val I hp
  refine PySem.call_dict_pairs (knd := mixKind X.prog X.w) (kvs := prs) (PairArg.tuple a (ps.map Value.ref).toArray (fun j => ps.getD j 0) pv) (I.ok.hd hcalm) ⟨⟨o, n, hget, hc, hdn, hdat⟩, by simp [hl2], fun j k v hj => ?_⟩ ⟨by rw [hl, hl2], fun j k v hj => ?_⟩ (by rw [hl2]; exact hz) fun h' tk hd' k => ?_
  · obtain ⟨b, kk, e1, e2, e3, e4⟩ := hpr j k v hj
    have e5 : ps.getD j 0 = b := by rw [List.getD_eq_getElem?_getD, e1]; rfl
    show (List.map Value.ref ps).toArray[j]? = some (Value.ref (ps.getD j 0)) ∧ PairAt s.heap (ps.getD j 0) k v
    rw [e5]
    exact ⟨by simp [e1], .inl e2⟩
  · obtain ⟨b, kk, e1, e2, e3, e4⟩ := hpr j k v hj
    exact ⟨kk, e3, e4⟩
  · have hm : (s.heap.objs.size == sysModules) = false := beq_eq_false_iff_ne.mpr (Nat.ne_of_gt I.big)
    have hlen : (mergeK [] kvs).length ≤ sizeLine := by
      refine Nat.le_trans (length_mergeK kvs []) ?_
      rw [List.length_nil, Nat.zero_add, rel.length, hl]
      exact hz
    exact ⟨.ref s.heap.objs.size, upd H s.heap.objs.size (.dK (mergeK [] kvs)), I.laid (t' := tk) (fun b o e => k b o (by simp) e) (Nat.le_refl _) (show ObjOk X.prog X.w _ _ _ (.dK (mergeK [] kvs)) from ⟨hlen, hm, merged [] prs, KV.merge rel .nil, hd'⟩), rfl, q _ (I.hok.fresh (Nat.le_refl _))⟩
end
section
variable {K : PySem.W.Frag} {F : Fx} {G H : Hp} {σ : L2.St} {Γ : List Slot} {i : Nat} {pin : Bool} {t : Ty} {kvs : List (List Nat × t.den)}
theorem Wd.ownedS (W : Wd K F G σ H Γ) (hi : Γ[i]? = some (.ow pin (.dks t kvs))) : ∃ p ws, σ[i]? = some (some (.ref p)) ∧ H p = some (.dK ws) ∧ RepS K t G ws kvs := by
  obtain ⟨b, ho, e1, e2, e3, e4, e5, e6⟩ := W.sl i _ hi
  obtain ⟨ws, rfl, r⟩ := e5
  exact ⟨b, ws, e1, e4, r⟩
end
section
variable {X : Cx} {a b e : Expr} {pos p npos apos : Pos} {Γ Γ1 Γ2 : List Slot} {t : Ty} {n : Str}
theorem pairs_strs {K : PySem.W.Frag} {G H : Hp} (sg : Same G H) : ∀ {vs : List V} {xs : List (List Nat × t.den)}, RepL K (.p2 .str t) G vs xs → ∃ (ps : List Addr) (ms : List (Key × V)), vs = ps.map V.ref ∧ Paired (fun p kv => H p = some (.tup [kV kv.1, kv.2])) ps ms ∧ RepS K t G ms xs
  | _, _, .nil => ⟨[], [], rfl, .nil, .nil⟩
  | _, _, .cons r q => by
    obtain ⟨p, v1, v2, rfl, h1, h2, h3⟩ := r
    obtain ⟨ps, ms, rfl, h4, h5⟩ := pairs_strs sg q
    have h2 : v1 = vS _ := h2
    subst h2
    exact ⟨p :: ps, (Sum.inr ⟨_⟩, v2) :: ms, rfl, .cons (sg _ _ h1) h4, .cons ⟨rfl, h3⟩ h5⟩
/-- dict(a tuple of pairs) -/
theorem do_dictT {xs : List (List Nat × t.den)} (hm : X.mg "dict" = none) (h : DE X e Γ (.tup (.p2 .str t)) xs Γ1) (hc : X.calm = true := by rfl) (hg : Gl X "dict" := by rfl)
    (hs : starEach [e] X.env = (false, eval e X.env) :: starEach [] X.env := by rfl) (hpl : (backTo pos (starEach [] X.env)).any (·.1) = false := by rfl) : DO X (.Call (.Name "dict" p) [e] [] pos) Γ (.dks t (smerge xs)) Γ1 := fun F G σ H W Q q =>
  wpe_of (pe_callTy (cr_dictT hc) hg hm (by decide +kernel) pa_wp (by decide) (by decide) hs hpl) (wpa_one hs (h F G σ H W _ fun v G1 H1 s1 W1 r1 => by
    obtain ⟨a, vs, rfl, h1, h2⟩ := r1
    obtain ⟨ps, ms, rfl, h3, h4⟩ := pairs_strs W1.gh h2
    exact ⟨a, ps, ms, rfl, h1.mono W1.gh, h3, fun l hl => q l _ G1 _ s1 (W1.new hl) (W1.tn hl) ⟨_, rfl, repS_merge h4 .nil⟩⟩))
/-- d.get(k, x) -/
theorem de_sget2 (i : Nat) {k : Nat} {pin : Bool} {kvs : List (List Nat × t.den)} {y : List Nat} {x : t.den} (hr : RoomG k X.A) (ha : DE X a Γ .str y Γ1) (hb : DE X b Γ1 t x Γ2) (h0 : Γ[i]? = some (.ow pin (.dks t kvs))) (h2 : Γ2[i]? = some (.ow pin (.dks t kvs)))
    (hN : X.N[i]? = some n := by rfl) (hv : Vis X.env.scope n := by first | exact Or.inl rfl | exact Or.inr (Or.inl rfl) | exact Or.inr (Or.inr rfl))
    (hd : (n == ("__debug__" : Str)) = false := by decide) (hcd : (n == ("__classdict__" : Str)) = false := by decide) (m : M2 X (.Name n npos) "get" apos a b pos := by exact ⟨rfl, rfl, rfl, rfl⟩) : DE X (.Call (.Attribute (.Name n npos) "get" apos) [a, b] [] pos) Γ t ((sget kvs y).getD x) Γ2 := fun F G σ H W Q q => by
  obtain ⟨d, ws, e1, e2, e3⟩ := W.ownedS h0
  have hu : X.A.units + 1 < cLine := by have := hr.units; omega
  refine wpe_of (pe_dget2 hu (pe_var hN hv hd hcd) pe_wp pe_wp m) ⟨.ref d, e1, d, rfl, .inl ⟨ws, .inl e2⟩, ha F G σ H W _ fun w G1 H1 s1 W1 r1 => hb F G1 σ H1 W1 _ fun v G2 H2 s2 W2 r2 => ?_⟩
  obtain ⟨d', ws', g1, g2, g3⟩ := W2.ownedS h2
  rw [e1] at g1; cases g1
  have r1 : w = vS y := r1
  subst r1
  refine ⟨valV ws' (Sum.inr ⟨y.toArray⟩), DGet.k (k := Sum.inr ⟨y.toArray⟩) g2, q _ G2 H2 (s1.trans s2) W2 ?_⟩
  cases e : sget kvs y with
  | none => rw [(repS_get g3).1 e]; exact r2
  | some z => obtain ⟨u, f1, f2⟩ := (repS_get g3).2 z e; rw [f1]; exact f2
end
section
variable {X : Cx} {e : Expr} {l h : Option Expr} {pos p2 : Pos} {Γ Γ1 Γ2 Γ3 : List Slot} {xs : List Int} {lo hi : Option Int}
/-- a slice of the script -/
theorem do_slR (he : DE X e Γ .scr xs Γ1) (hl : DP X l Γ1 lo Γ2) (hh : DP X h Γ2 hi Γ3) : DO X (.Subscript e (.Slice l h none p2) pos) Γ (.lst .int (cut xs lo hi)) Γ3 := fun F G σ H W Q q =>
  wpe_of (pe_slice sl_list pe_wp po_wp po_wp) (he F G σ H W _ fun v G1 H1 s1 W1 r1 => hl F G1 σ H1 W1 _ fun G2 H2 s2 W2 => hh F G2 σ H2 W2 _ fun G3 H3 s3 W3 => by
    obtain ⟨a, rfl, h1⟩ := r1
    exact ⟨a, _, rfl, sql_mono ((s2.trans s3).trans W3.gh) h1, fun p hp => q p _ G3 _ ((s1.trans s2).trans s3) (W3.new hp) (W3.tn hp) ⟨_, rfl, rep_cut (repL_ints xs)⟩⟩)
end
end Dn

set_option Elab.async false
set_option linter.all false
set_option maxRecDepth 100000
set_option maxHeartbeats 4000000
/-! Dn46: sets of tuples of ints and texts -/
namespace Tz
open PySem PySem.Spec PyProof.Rows L2
def Flat1 (v : Value) : Prop := (∃ i t, v = Value.int i t) ∨ ∃ x t, v = Value.str x t
/-- pigeons -/
theorem nat_nodup_len : ∀ (l D : List Nat), l.Nodup → (∀ x ∈ l, x ∈ D) → l.length ≤ D.length
  | [], _, _, _ => Nat.zero_le _
  | x :: l, D, hn, hs => by
    obtain ⟨h1, h2⟩ := List.nodup_cons.mp hn
    have hx : x ∈ D := hs x List.mem_cons_self
    have ih := nat_nodup_len l (D.erase x) h2 fun y hy => by
      have hne : y ≠ x := fun e => h1 (e ▸ hy)
      exact (List.mem_erase_of_ne hne).2 (hs y (List.mem_cons_of_mem _ hy))
    have e := List.length_erase_of_mem hx
    have hp : 0 < D.length := List.length_pos_of_mem hx
    rw [List.length_cons]
    omega
/-- a short list leaves a number out -/
theorem st_missing (l : List Nat) (n : Nat) (h : l.length < n) : ∃ j, j < n ∧ j ∉ l := by
  rcases Classical.em (∃ j, j < n ∧ j ∉ l) with c | c
  · exact c
  · exfalso
    have hs : ∀ x ∈ List.range n, x ∈ l := fun x hx => by
      rcases Classical.em (x ∈ l) with k | k
      · exact k
      · exact absurd ⟨x, List.mem_range.mp hx, k⟩ c
    have q := nat_nodup_len (List.range n) l List.nodup_range hs
    rw [List.length_range] at q
    omega
/-- the least number of which a property is true -/
theorem st_least {p : Nat → Prop} : ∀ n, p n → ∃ k, k ≤ n ∧ p k ∧ ∀ k', k' < k → ¬ p k' := by
  intro n
  induction n using Nat.strongRecOn with
  | ind n ih =>
    intro h
    rcases Classical.em (∃ k', k' < n ∧ p k') with ⟨k', h1, h2⟩ | c
    · obtain ⟨k, a, b, d⟩ := ih k' h1 h2
      exact ⟨k, Nat.le_trans a (Nat.le_of_lt h1), b, d⟩
    · exact ⟨n, Nat.le_refl _, h, fun k' hk hp => c ⟨k', hk, hp⟩⟩

/-! ### the round of i -> 5 i + 1 -/
def lcgN (m : Nat) : Nat → Nat
  | 0 => 0
  | k + 1 => (lcgN m k * 5 + 1) % (m + 1)
def lcgI (m i : Nat) : Nat → Nat
  | 0 => i
  | k + 1 => (lcgI m i k * 5 + 1) % (m + 1)
/-- the masks that come -/
def MaskOk (m : Nat) : Prop := m = 7 ∨ m = 31 ∨ m = 127 ∨ m = 511
theorem lcg_all7 : ((List.range 8).all fun j => (List.range 8).any fun b => lcgN 7 b == j) = true := by decide +kernel
theorem lcg_all31 : ((List.range 32).all fun j => (List.range 32).any fun b => lcgN 31 b == j) = true := by decide +kernel
theorem lcg_all127 : ((List.range 128).all fun j => (List.range 128).any fun b => lcgN 127 b == j) = true := by decide +kernel
/-- the slots met, as the bits of a number -/
def bitsU (m : Nat) : Nat → Nat → Nat → Nat
  | 0, _, acc => acc
  | n + 1, x, acc => bitsU m n ((x * 5 + 1) % (m + 1)) (acc ||| 2 ^ x)
theorem lcgI_shift (m x : Nat) : ∀ k, lcgI m x (k + 1) = lcgI m ((x * 5 + 1) % (m + 1)) k
  | 0 => rfl
  | k + 1 => by
    show (lcgI m x (k + 1) * 5 + 1) % (m + 1) = (lcgI m ((x * 5 + 1) % (m + 1)) k * 5 + 1) % (m + 1)
    rw [lcgI_shift m x k]
theorem bitsU_met {m j : Nat} : ∀ (n x acc : Nat), (bitsU m n x acc).testBit j = true → acc.testBit j = true ∨ ∃ b, b < n ∧ lcgI m x b = j
  | 0, _, _, h => .inl h
  | n + 1, x, acc, h => by
    rcases bitsU_met n _ _ h with h | ⟨b, hb, e⟩
    · rw [Nat.testBit_or, Bool.or_eq_true, Nat.testBit_two_pow, decide_eq_true_eq] at h
      rcases h with h | h
      · exact .inl h
      · exact .inr ⟨0, Nat.succ_pos n, h⟩
    · exact .inr ⟨b + 1, Nat.succ_lt_succ hb, by rw [lcgI_shift]; exact e⟩
theorem lcgI_zero (m : Nat) : ∀ k, lcgI m 0 k = lcgN m k
  | 0 => rfl
  | k + 1 => by
    show (lcgI m 0 k * 5 + 1) % (m + 1) = (lcgN m k * 5 + 1) % (m + 1)
    rw [lcgI_zero m k]
theorem bits511 : bitsU 511 512 0 0 = 2 ^ 512 - 1 := by decide +kernel
theorem lcg_all511 {j : Nat} (hj : j ≤ 511) : ∃ b, b ≤ 511 ∧ lcgN 511 b = j := by
  have h : (bitsU 511 512 0 0).testBit j = true := by
    rw [bits511, Nat.testBit_two_pow_sub_one, decide_eq_true_eq]; omega
  rcases bitsU_met 512 0 0 h with h | ⟨b, hb, e⟩
  · rw [Nat.zero_testBit] at h; cases h
  · exact ⟨b, by omega, by rw [← lcgI_zero]; exact e⟩
theorem lcg_all {m : Nat} (hm : MaskOk m) {j : Nat} (hj : j ≤ m) : ∃ b, b ≤ m ∧ lcgN m b = j := by
  have key : ∀ n : Nat, ((List.range (n + 1)).all fun j => (List.range (n + 1)).any fun b => lcgN n b == j) = true → ∀ j, j ≤ n → ∃ b, b ≤ n ∧ lcgN n b = j := by
    intro n h j hj
    have h1 := List.all_eq_true.mp h j (List.mem_range.mpr (Nat.lt_succ_of_le hj))
    obtain ⟨b, hb, e⟩ := List.any_eq_true.mp h1
    exact ⟨b, Nat.le_of_lt_succ (List.mem_range.mp hb), beq_iff_eq.mp e⟩
  rcases hm with e | e | e | e
  · subst e; exact key 7 lcg_all7 j hj
  · subst e; exact key 31 lcg_all31 j hj
  · subst e; exact key 127 lcg_all127 j hj
  · subst e; exact lcg_all511 hj
theorem lcg_round {m : Nat} (hm : MaskOk m) : lcgN m (m + 1) = 0 := by
  rcases hm with e | e | e | e
  · subst e; decide +kernel
  · subst e; decide +kernel
  · subst e; decide +kernel
  · subst e; decide +kernel
theorem lcgN_add (m a : Nat) : ∀ k, lcgI m (lcgN m a) k = lcgN m (a + k)
  | 0 => rfl
  | k + 1 => by
    show (lcgI m (lcgN m a) k * 5 + 1) % (m + 1) = (lcgN m (a + k) * 5 + 1) % (m + 1)
    rw [lcgN_add m a k]
theorem lcgN_mod {m : Nat} (hm : MaskOk m) : ∀ k, lcgN m (m + 1 + k) = lcgN m k
  | 0 => lcg_round hm
  | k + 1 => by
    show (lcgN m (m + 1 + k) * 5 + 1) % (m + 1) = (lcgN m k * 5 + 1) % (m + 1)
    rw [lcgN_mod hm k]
/-- from anywhere each slot is met within a round -/
theorem lcgI_all {m : Nat} (hm : MaskOk m) {i j : Nat} (hi : i ≤ m) (hj : j ≤ m) : ∃ k, k ≤ m ∧ lcgI m i k = j := by
  obtain ⟨a, ha, ea⟩ := lcg_all hm hi
  obtain ⟨b, hb, eb⟩ := lcg_all hm hj
  rw [← ea]
  rcases Nat.lt_or_ge b a with c | c
  · refine ⟨b + (m + 1) - a, by omega, ?_⟩
    rw [lcgN_add]
    have e : a + (b + (m + 1) - a) = m + 1 + b := by omega
    rw [e, lcgN_mod hm, eb]
  · refine ⟨b - a, by omega, ?_⟩
    rw [lcgN_add]
    have e : a + (b - a) = b := by omega
    rw [e, eb]

/-! ### the way of a search -/
/-- SetTable.advance, by the mask alone -/
def adv (m : Nat) (p : SetTable.Probe) : SetTable.Probe :=
  if p.more > 0 then { p with j := p.j + 1, more := p.more - 1 } else
  { p with j := (SetTable.leap m p.i p.perturb).1, more := SetTable.runEnd m (SetTable.leap m p.i p.perturb).1 - (SetTable.leap m p.i p.perturb).1, i := (SetTable.leap m p.i p.perturb).1, perturb := (SetTable.leap m p.i p.perturb).2 }
theorem adv_eq (t : SetTable) (p : SetTable.Probe) : t.advance p = adv t.mask p := rfl
def nth (m : Nat) (p : SetTable.Probe) : Nat → SetTable.Probe
  | 0 => p
  | k + 1 => nth m (adv m p) k
theorem nth_add (m : Nat) : ∀ (a : Nat) (p : SetTable.Probe) (k : Nat), nth m p (a + k) = nth m (nth m p a) k
  | 0, p, k => by rw [Nat.zero_add]; rfl
  | a + 1, p, k => by
    have e : a + 1 + k = (a + k) + 1 := by omega
    rw [e]
    exact nth_add m a (adv m p) k
theorem nth_succ (m : Nat) (p : SetTable.Probe) (k : Nat) : nth m p (k + 1) = adv m (nth m p k) := nth_add m k p 1
/-- a run's first state -/
def runAt (m i perturb : Nat) : SetTable.Probe := { j := i, more := SetTable.runEnd m i - i, i, perturb, dummy := none }
theorem start_run (t : SetTable) (h : Int) : t.probeStart h = runAt t.mask (SetTable.bits h % (t.mask + 1)) (SetTable.bits h) := rfl
theorem runEnd_bd {m i : Nat} (hi : i ≤ m) : SetTable.runEnd m i ≤ m ∧ i ≤ SetTable.runEnd m i ∧ SetTable.runEnd m i ≤ i + 9 := by
  unfold SetTable.runEnd
  split <;> omega
/-- within a run -/
theorem nth_run (m : Nat) (i perturb : Nat) : ∀ k, k ≤ SetTable.runEnd m i - i → nth m (runAt m i perturb) k = { j := i + k, more := SetTable.runEnd m i - i - k, i, perturb, dummy := none }
  | 0, _ => rfl
  | k + 1, h => by
    rw [nth_succ, nth_run m i perturb k (by omega)]
    unfold adv
    have hp : SetTable.runEnd m i - i - k > 0 := by omega
    rw [if_pos hp]
    rfl
/-- behind a run comes the next -/
theorem nth_leap (m : Nat) (i perturb : Nat) : nth m (runAt m i perturb) (SetTable.runEnd m i - i + 1) = runAt m (SetTable.leap m i perturb).1 (SetTable.leap m i perturb).2 := by
  rw [nth_succ, nth_run m i perturb _ (Nat.le_refl _)]
  unfold adv
  have hp : ¬ (SetTable.runEnd m i - i - (SetTable.runEnd m i - i) > 0) := by omega
  rw [if_neg hp]
  rfl
/-- the runs' starts -/
def runI (m b : Nat) : Nat → Nat
  | 0 => b % (m + 1)
  | n + 1 => (runI m b n * 5 + 1 + b / 32 ^ (n + 1)) % (m + 1)
theorem pow_div (b n : Nat) : b / 32 ^ n / 32 = b / 32 ^ (n + 1) := by
  rw [Nat.div_div_eq_div_mul, Nat.pow_succ]
theorem runI_le (m b : Nat) : ∀ n, runI m b n ≤ m
  | 0 => Nat.le_of_lt_succ (Nat.mod_lt _ (Nat.succ_pos _))
  | n + 1 => Nat.le_of_lt_succ (Nat.mod_lt _ (Nat.succ_pos _))
/-- the n-th run begins within 10 n steps -/
theorem run_nth (m b : Nat) : ∀ n, ∃ k, k ≤ 10 * n ∧ nth m (runAt m (b % (m + 1)) b) k = runAt m (runI m b n) (b / 32 ^ n)
  | 0 => ⟨0, Nat.le_refl _, by
    show runAt m (b % (m + 1)) b = runAt m (b % (m + 1)) (b / 32 ^ 0)
    rw [Nat.pow_zero, Nat.div_one]⟩
  | n + 1 => by
    obtain ⟨k, hk, e⟩ := run_nth m b n
    have hr := runEnd_bd (runI_le m b n)
    refine ⟨k + (SetTable.runEnd m (runI m b n) - runI m b n + 1), by omega, ?_⟩
    rw [nth_add, e, nth_leap]
    show runAt m ((runI m b n * 5 + 1 + b / 32 ^ n / 32) % (m + 1)) (b / 32 ^ n / 32) = _
    rw [pow_div]
    rfl
theorem runI_tail {m b : Nat} (hb : b < 2 ^ 64) : ∀ k, runI m b (12 + k) = lcgI m (runI m b 12) k
  | 0 => rfl
  | k + 1 => by
    have z : b / 32 ^ (12 + k + 1) = 0 := by
      refine Nat.div_eq_of_lt (Nat.lt_of_lt_of_le hb ?_)
      have e : (32 : Nat) ^ (12 + k + 1) = 32 ^ 13 * 32 ^ k := by
        rw [← Nat.pow_add]
        have e2 : 12 + k + 1 = 13 + k := by omega
        rw [e2]
      rw [e]
      have h1 : 0 < (32 : Nat) ^ k := Nat.pow_pos (by decide)
      have h2 : (2 : Nat) ^ 64 ≤ 32 ^ 13 := by decide
      exact Nat.le_trans h2 (Nat.le_mul_of_pos_right _ h1)
    show (runI m b (12 + k) * 5 + 1 + b / 32 ^ (12 + k + 1)) % (m + 1) = (lcgI m (runI m b 12) k * 5 + 1) % (m + 1)
    rw [z, runI_tail hb k, Nat.add_zero]
theorem bits_lt (h : Int) : SetTable.bits h < 2 ^ 64 := by
  unfold SetTable.bits
  have h1 := Int.emod_nonneg h (show ((2 : Int) ^ 64) ≠ 0 by decide)
  have h2 := Int.emod_lt_of_pos h (show (0 : Int) < 2 ^ 64 by decide)
  omega
/-- each slot begins a run early enough -/
theorem run_meets {m : Nat} (hm : MaskOk m) (h : Int) {j : Nat} (hj : j ≤ m) : ∃ n, n ≤ m + 12 ∧ runI m (SetTable.bits h) n = j := by
  obtain ⟨k, hk, e⟩ := lcgI_all hm (runI_le m (SetTable.bits h) 12) hj
  exact ⟨12 + k, by omega, by rw [runI_tail (bits_lt h)]; exact e⟩
/-- each slot is met within the search's bound -/
theorem nth_meets {m : Nat} (hm : MaskOk m) (h : Int) {j : Nat} (hj : j ≤ m) : ∃ k, k < 10 * SetTable.turns m ∧ (nth m (runAt m (SetTable.bits h % (m + 1)) (SetTable.bits h)) k).j = j := by
  obtain ⟨n, hn, e⟩ := run_meets hm h hj
  obtain ⟨k, hk, e2⟩ := run_nth m (SetTable.bits h) n
  refine ⟨k, by unfold SetTable.turns; omega, ?_⟩
  rw [e2]
  exact e

/-! ### slots -/
theorem has_none (j : Nat) : SetTable.has #[] j = false := by
  unfold SetTable.has
  simp
theorem slot_live {t : SetTable} (r : Ris t.place.toList) {i j : Nat} (h : t.place.toList[i]? = some j) : t.slot j = .live i := by
  obtain ⟨c1, c2, c3⟩ := below_cut r j
  have hb : SetTable.below t.place j = i := by
    generalize SetTable.below t.place j = p at c1 c2 c3 ⊢
    rcases Nat.lt_trichotomy i p with k | k | k
    · exact absurd (c2 i j h k) (Nat.lt_irrefl _)
    · exact k.symm
    · have hl : i < t.place.toList.length := (List.getElem?_eq_some_iff.mp h).1
      have hp : p < t.place.toList.length := Nat.lt_trans k hl
      have e := List.getElem?_eq_getElem hp
      have h1 := c3 p _ e (Nat.le_refl _)
      have h2 := ris_lt r e h k
      exact absurd (Nat.lt_of_lt_of_le h2 h1) (Nat.lt_irrefl _)
  have e2 : t.place[i]? = some j := by rw [← Array.getElem?_toList]; exact h
  unfold SetTable.slot
  rw [hb]
  show (if (t.place[i]? == some j) = true then SetTable.Slot.live i else if SetTable.has t.dummies j = true then SetTable.Slot.dummy else SetTable.Slot.empty) = SetTable.Slot.live i
  rw [e2]
  simp
theorem slot_empty {t : SetTable} (hd : t.dummies = #[]) {j : Nat} (h : j ∉ t.place.toList) : t.slot j = .empty := by
  unfold SetTable.slot
  have e : (t.place[SetTable.below t.place j]? == some j) = false := by
    rcases Classical.em (t.place[SetTable.below t.place j]? = some j) with c | c
    · exact absurd (List.mem_of_getElem? (by rw [Array.getElem?_toList]; exact c)) h
    · exact beq_eq_false_iff_ne.mpr c
  rw [hd, has_none]
  simp only [e]
  rfl
theorem slot_cases {t : SetTable} (r : Ris t.place.toList) (hd : t.dummies = #[]) (j : Nat) : (j ∉ t.place.toList ∧ t.slot j = .empty) ∨ ∃ i, t.place.toList[i]? = some j ∧ t.slot j = .live i := by
  rcases Classical.em (j ∈ t.place.toList) with c | c
  · obtain ⟨i, hi, e⟩ := List.getElem_of_mem c
    have e2 : t.place.toList[i]? = some j := by rw [List.getElem?_eq_getElem hi, e]
    exact Or.inr ⟨i, e2, slot_live r e2⟩
  · exact Or.inl ⟨c, slot_empty hd c⟩

/-- what a probe answers: the first of equal hash before the first empty slot, or that slot -/
theorem go_spec (t : SetTable) (r : Ris t.place.toList) (hd : t.dummies = #[]) (hashAt : Nat → Int) (h : Int) : ∀ (f K : Nat) (p : SetTable.Probe), p.dummy = none → K < f →
    (∀ k, k < K → (nth t.mask p k).j ∈ t.place.toList) → (nth t.mask p K).j ∉ t.place.toList →
    (∃ k i, k < K ∧ t.place.toList[i]? = some (nth t.mask p k).j ∧ hashAt i = h ∧ (∀ k' i', k' < k → t.place.toList[i']? = some (nth t.mask p k').j → hashAt i' ≠ h) ∧
      SetTable.probe.go t hashAt h f p = some (.candidate (nth t.mask p k).j i (nth t.mask p (k + 1)))) ∨
    ((∀ k' i', k' < K → t.place.toList[i']? = some (nth t.mask p k').j → hashAt i' ≠ h) ∧ SetTable.probe.go t hashAt h f p = some (.empty (nth t.mask p K).j none))
  | 0, K, p, _, hK, _, _ => absurd hK (Nat.not_lt_zero _)
  | f + 1, 0, p, hp, _, _, he => by
    refine Or.inr ⟨fun k' i' hk => absurd hk (Nat.not_lt_zero _), ?_⟩
    have hs : t.slot p.j = .empty := slot_empty hd he
    unfold SetTable.probe.go
    rw [hs]
    show some (SetTable.Met.empty p.j p.dummy) = some (SetTable.Met.empty p.j none)
    rw [hp]
  | f + 1, K + 1, p, hp, hK, hin, he => by
    have h0 : p.j ∈ t.place.toList := hin 0 (Nat.succ_pos _)
    rcases slot_cases r hd p.j with ⟨c, _⟩ | ⟨i, hi, hs⟩
    · exact absurd h0 c
    · by_cases hh : hashAt i = h
      · refine Or.inl ⟨0, i, Nat.succ_pos _, hi, hh, fun k' i' hk => absurd hk (Nat.not_lt_zero _), ?_⟩
        unfold SetTable.probe.go
        rw [hs]
        show (if (hashAt i == h) = true then some (SetTable.Met.candidate p.j i (t.advance p)) else SetTable.probe.go t hashAt h f (t.advance p)) = _
        rw [if_pos (beq_iff_eq.mpr hh)]
        rfl
      · have e : SetTable.probe.go t hashAt h (f + 1) p = SetTable.probe.go t hashAt h f (adv t.mask p) := by
          conv => lhs; unfold SetTable.probe.go
          rw [hs]
          show (if (hashAt i == h) = true then some (SetTable.Met.candidate p.j i (t.advance p)) else SetTable.probe.go t hashAt h f (t.advance p)) = _
          rw [if_neg (by rw [beq_iff_eq]; exact hh)]
          rfl
        have hpd : (adv t.mask p).dummy = none := by
          unfold adv
          split <;> exact hp
        have one : ∀ i', t.place.toList[i']? = some p.j → hashAt i' ≠ h := fun i' hi' => by
          have e1 := slot_live r hi'
          rw [hs] at e1
          injection e1 with e1
          rw [← e1]
          exact hh
        rcases go_spec t r hd hashAt h f K (adv t.mask p) hpd (by omega) (fun k hk => hin (k + 1) (Nat.succ_lt_succ hk)) he with ⟨k, i2, a1, a2, a3, a4, a5⟩ | ⟨a1, a2⟩
        · refine Or.inl ⟨k + 1, i2, Nat.succ_lt_succ a1, a2, a3, fun k' i' hk hi' => ?_, by rw [e]; exact a5⟩
          cases k' with
          | zero => exact one i' hi'
          | succ k' => exact a4 k' i' (Nat.lt_of_succ_lt_succ hk) hi'
        · refine Or.inr ⟨fun k' i' hk hi' => ?_, by rw [e]; exact a2⟩
          cases k' with
          | zero => exact one i' hi'
          | succ k' => exact a1 k' i' (Nat.lt_of_succ_lt_succ hk) hi'

/-! ### the table's word -/
abbrev way (m : Nat) (h : Int) (k : Nat) : Nat := (nth m (runAt m (SetTable.bits h % (m + 1)) (SetTable.bits h)) k).j
/-- a table whose slots all are found again from their hashes -/
structure TabOk (t : SetTable) (hs : List Int) : Prop where
  ris : Ris t.place.toList
  dm : t.dummies = #[]
  sz : t.place.size = hs.length
  mok : MaskOk t.mask
  bd : ∀ x ∈ t.place.toList, x ≤ t.mask
  reach : ∀ (i : Nat) (h : Int) (j : Nat), hs[i]? = some h → t.place.toList[i]? = some j → ∃ k, way t.mask h k = j ∧ ∀ k', k' < k → way t.mask h k' ∈ t.place.toList
theorem mask_odd {m : Nat} (h : MaskOk m) : m % 2 = 1 := by
  rcases h with e | e | e | e <;> subst e <;> rfl
/-- the first empty slot on the way -/
theorem TabOk.first {t : SetTable} {hs : List Int} (T : TabOk t hs) (hl : hs.length ≤ t.mask) (h : Int) : ∃ K, K < 10 * SetTable.turns t.mask ∧ way t.mask h K ∉ t.place.toList ∧ ∀ k, k < K → way t.mask h k ∈ t.place.toList := by
  have hlen : t.place.toList.length < t.mask + 1 := by
    rw [Array.length_toList, T.sz]
    omega
  obtain ⟨j, hj, hn⟩ := st_missing t.place.toList (t.mask + 1) hlen
  obtain ⟨k, hk, e⟩ := nth_meets T.mok h (Nat.le_of_lt_succ hj)
  obtain ⟨K, h1, h2, h3⟩ := st_least (p := fun k => way t.mask h k ∉ t.place.toList) k (by show way t.mask h k ∉ _; rw [show way t.mask h k = j from e]; exact hn)
  refine ⟨K, Nat.lt_of_le_of_lt h1 hk, h2, fun k' hk' => ?_⟩
  rcases Classical.em (way t.mask h k' ∈ t.place.toList) with c | c
  · exact c
  · exact absurd c (h3 k' hk')
/-- what has the hash stands on the way before it -/
theorem TabOk.before {t : SetTable} {hs : List Int} (T : TabOk t hs) {h : Int} {K i j : Nat} (hK : way t.mask h K ∉ t.place.toList) (hi : hs[i]? = some h) (hj : t.place.toList[i]? = some j) : ∃ k, k < K ∧ way t.mask h k = j := by
  obtain ⟨k, e, hb⟩ := T.reach i h j hi hj
  refine ⟨k, ?_, e⟩
  rcases Nat.lt_trichotomy k K with c | c | c
  · exact c
  · rw [← c, e] at hK
    exact absurd (List.mem_of_getElem? hj) hK
  · exact absurd (hb K c) hK
end Tz

namespace Tz
open PySem PySem.Spec PyProof.Rows L2

/-! ### the way stays within the table -/
theorem leap_le (m i b : Nat) : (SetTable.leap m i b).1 ≤ m := by
  show (i * 5 + 1 + b / 32) % (m + 1) ≤ m
  exact Nat.le_of_lt_succ (Nat.mod_lt _ (Nat.succ_pos _))
theorem adv_in {m : Nat} {p : SetTable.Probe} (h : p.j + p.more ≤ m) : (adv m p).j + (adv m p).more ≤ m := by
  unfold adv
  by_cases c : p.more > 0
  · rw [if_pos c]
    show p.j + 1 + (p.more - 1) ≤ m
    omega
  · rw [if_neg c]
    have r := runEnd_bd (leap_le m p.i p.perturb)
    show (SetTable.leap m p.i p.perturb).1 + (SetTable.runEnd m (SetTable.leap m p.i p.perturb).1 - (SetTable.leap m p.i p.perturb).1) ≤ m
    omega
theorem nth_in {m : Nat} : ∀ (k : Nat) (p : SetTable.Probe), p.j + p.more ≤ m → (nth m p k).j + (nth m p k).more ≤ m
  | 0, _, h => h
  | k + 1, p, h => nth_in k (adv m p) (adv_in h)
theorem way_le {m : Nat} (_hm : MaskOk m) {h : Int} {k : Nat} : way m h k ≤ m := by
  have hi : SetTable.bits h % (m + 1) ≤ m := Nat.le_of_lt_succ (Nat.mod_lt _ (Nat.succ_pos _))
  have r := runEnd_bd hi
  have q := nth_in (m := m) k (runAt m (SetTable.bits h % (m + 1)) (SetTable.bits h)) (by
    show SetTable.bits h % (m + 1) + (SetTable.runEnd m (SetTable.bits h % (m + 1)) - SetTable.bits h % (m + 1)) ≤ m
    omega)
  show (nth m (runAt m (SetTable.bits h % (m + 1)) (SetTable.bits h)) k).j ≤ m
  omega

/-! ### one put in -/
theorem tins_get {α : Type} (l : List α) {p : Nat} (hp : p ≤ l.length) (x : α) (i : Nat) : (l.take p ++ x :: l.drop p)[i]? = if i < p then l[i]? else if i = p then some x else l[i - 1]? := by
  have ht : (l.take p).length = p := by
    rw [List.length_take]
    omega
  by_cases h1 : i < p
  · rw [if_pos h1, List.getElem?_append_left (by rw [ht]; exact h1)]
    simp [List.getElem?_take, h1]
  · rw [if_neg h1, List.getElem?_append_right (by rw [ht]; omega), ht]
    by_cases h2 : i = p
    · rw [if_pos h2, h2, Nat.sub_self] <;> rfl
    · rw [if_neg h2]
      obtain ⟨k, e⟩ : ∃ k, i - p = k + 1 := ⟨i - p - 1, by omega⟩
      have e2 : p + k = i - 1 := by omega
      rw [e, List.getElem?_cons_succ, List.getElem?_drop, e2]
theorem mem_ins {α : Type} {l : List α} {p : Nat} {x y : α} : x ∈ l.take p ++ y :: l.drop p ↔ x = y ∨ x ∈ l := by
  have e : x ∈ l ↔ x ∈ l.take p ∨ x ∈ l.drop p := by
    rw [← List.mem_append, List.take_append_drop]
  rw [List.mem_append, List.mem_cons]
  constructor
  · intro z
    rcases z with z | z | z
    · exact .inr (e.2 (.inl z))
    · exact .inl z
    · exact .inr (e.2 (.inr z))
  · intro z
    rcases z with z | z
    · exact .inr (.inl z)
    · rcases e.1 z with z | z
      · exact .inl z
      · exact .inr (.inr z)
theorem len_ins {α : Type} (l : List α) {p : Nat} (hp : p ≤ l.length) (x : α) : (l.take p ++ x :: l.drop p).length = l.length + 1 := by
  rw [List.length_append, List.length_cons, List.length_take, List.length_drop]
  omega
theorem put_place (t : SetTable) (j : Nat) : (t.put j).1.place.toList = t.place.toList.take (SetTable.below t.place j) ++ j :: t.place.toList.drop (SetTable.below t.place j) := SetTable.toList_insertAt _ _ _
theorem put_dm {t : SetTable} (hd : t.dummies = #[]) (j : Nat) : (t.put j).1.dummies = #[] := by
  show (if SetTable.has t.dummies j = true then SetTable.eraseAt t.dummies (SetTable.below t.dummies j) else t.dummies) = #[]
  rw [hd, has_none] <;> exact if_neg Bool.false_ne_true
theorem TabOk.put {t : SetTable} {hs : List Int} (T : TabOk t hs) {h : Int} {K : Nat} (hK : way t.mask h K ∉ t.place.toList) (hb : ∀ k, k < K → way t.mask h k ∈ t.place.toList) :
    (t.put (way t.mask h K)).2 = SetTable.below t.place (way t.mask h K) ∧ SetTable.below t.place (way t.mask h K) ≤ hs.length ∧
    TabOk (t.put (way t.mask h K)).1 (hs.take (SetTable.below t.place (way t.mask h K)) ++ h :: hs.drop (SetTable.below t.place (way t.mask h K))) ∧
    (t.put (way t.mask h K)).1.mask = t.mask ∧ (t.put (way t.mask h K)).1.led = t.led ∧ (t.put (way t.mask h K)).1.plain = t.plain ∧ (t.put (way t.mask h K)).1.moves = t.moves ∧ (t.put (way t.mask h K)).1.finger = t.finger ∧
    (t.put (way t.mask h K)).1.fill = hs.length + 1 := by
  have hjm : way t.mask h K ≤ t.mask := way_le T.mok
  obtain ⟨j, hj⟩ : ∃ j, j = way t.mask h K := ⟨_, rfl⟩
  rw [← hj] at hK hjm ⊢
  obtain ⟨c1, _, _⟩ := below_cut T.ris j
  have hpl : SetTable.below t.place j ≤ t.place.toList.length := by
    rw [Array.length_toList]
    exact c1
  have hph : SetTable.below t.place j ≤ hs.length := by
    rw [← T.sz]
    exact c1
  have hsz : t.place.toList.length = hs.length := by
    rw [Array.length_toList]
    exact T.sz
  have hnp : t.place[SetTable.below t.place j]? ≠ some j := fun e => hK (List.mem_of_getElem? (by rw [Array.getElem?_toList]; exact e))
  have hpp := put_place t j
  have hsize : (t.put j).1.place.size = hs.length + 1 := by
    rw [← Array.length_toList, hpp, len_ins _ hpl, hsz]
  have up : ∀ {x : Nat}, x ∈ t.place.toList → x ∈ (t.put j).1.place.toList := fun {x} hx => by
    rw [hpp]
    exact mem_ins.2 (.inr hx)
  refine ⟨rfl, hph, ⟨ris_insert T.ris hnp, put_dm T.dm j, ?_, T.mok, fun x hx => ?_, fun i h' j' h1 h2 => ?_⟩, rfl, rfl, rfl, rfl, rfl, ?_⟩
  · rw [len_ins _ hph]
    exact hsize
  · rw [hpp] at hx
    rcases mem_ins.1 hx with z | z
    · rw [z]
      exact hjm
    · exact T.bd x z
  · rw [tins_get hs hph] at h1
    rw [hpp, tins_get _ hpl] at h2
    show ∃ k, way t.mask h' k = j' ∧ ∀ k', k' < k → way t.mask h' k' ∈ (t.put j).1.place.toList
    by_cases c : i < SetTable.below t.place j
    · rw [if_pos c] at h1 h2
      obtain ⟨k, e, z⟩ := T.reach i h' j' h1 h2
      exact ⟨k, e, fun k' hk' => up (z k' hk')⟩
    · rw [if_neg c] at h1 h2
      by_cases d : i = SetTable.below t.place j
      · rw [if_pos d] at h1 h2
        have e1 : h = h' := Option.some.inj h1
        have e2 : j = j' := Option.some.inj h2
        subst e1
        subst e2
        exact ⟨K, hj.symm, fun k' hk' => up (hb k' hk')⟩
      · rw [if_neg d] at h1 h2
        obtain ⟨k, e, z⟩ := T.reach (i - 1) h' j' h1 h2
        exact ⟨k, e, fun k' hk' => up (z k' hk')⟩
  · show (t.put j).1.place.size + (t.put j).1.dummies.size = hs.length + 1
    rw [hsize, put_dm T.dm j] <;> rfl

/-! ### laying all anew: the runs -/
theorem runEnd_ge (m i : Nat) : i ≤ SetTable.runEnd m i := by
  unfold SetTable.runEnd
  split <;> omega
theorem find_range' (p : Nat → Bool) : ∀ (n s k : Nat), s ≤ k → k < s + n → p k = true → (∀ k', s ≤ k' → k' < k → p k' = false) → (List.range' s n).find? p = some k
  | 0, s, k, h1, h2, _, _ => absurd h2 (by omega)
  | n + 1, s, k, h1, h2, hk, hb => by
    rw [List.range'_succ, List.find?_cons]
    by_cases c : s = k
    · subst c
      rw [hk] <;> rfl
    · rw [hb s (Nat.le_refl _) (by omega)]
      exact find_range' p n (s + 1) k (by omega) (by omega) hk fun k' a b => hb k' (by omega) b
theorem find_range (p : Nat → Bool) {n k : Nat} (h : k < n) (hk : p k = true) (hb : ∀ k', k' < k → p k' = false) : (List.range n).find? p = some k := by
  rw [List.range_eq_range']
  exact find_range' p n 0 k (Nat.zero_le _) (by omega) hk fun k' _ b => hb k' b
theorem find_range_none (p : Nat → Bool) {n : Nat} (hb : ∀ k', k' < n → p k' = false) : (List.range n).find? p = none := by
  rw [List.find?_eq_none]
  intro x hx hp
  rw [hb x (List.mem_range.mp hx)] at hp
  cases hp

/-- who sits at a slot -/
abbrev oAt (owner : Array (Option Nat)) (j : Nat) : Option Nat := owner.getD j (some 0)
def pickR (x : Option Nat) (i : Nat) (y : Option Nat) : Option Nat := match x with
  | some k => some (i + k)
  | none => y
theorem free_succ (m : Nat) (owner : Array (Option Nat)) (f i b : Nat) : SetTable.layClean.free m owner (f + 1) i b =
    pickR ((List.range (SetTable.runEnd m i + 1 - i)).find? fun k => (oAt owner (i + k)).isNone) i (SetTable.layClean.free m owner f (SetTable.leap m i b).1 (SetTable.leap m i b).2) := rfl
/-- the steps up to the n-th run -/
def off (m : Nat) : Nat → Nat → Nat → Nat
  | _, _, 0 => 0
  | i, b, n + 1 => (SetTable.runEnd m i - i + 1) + off m (SetTable.leap m i b).1 (SetTable.leap m i b).2 n
theorem free_spec (m : Nat) (owner : Array (Option Nat)) : ∀ (f n i b K : Nat), n < f → K ≤ off m i b n → (∀ k, k < K → (oAt owner (nth m (runAt m i b) k).j).isNone = false) → (oAt owner (nth m (runAt m i b) K).j).isNone = true →
    SetTable.layClean.free m owner f i b = some (nth m (runAt m i b) K).j
  | 0, _, _, _, _, hn, _, _, _ => absurd hn (Nat.not_lt_zero _)
  | f + 1, n, i, b, K, hn, hK, hocc, hfree => by
    have hge := runEnd_ge m i
    by_cases c : K ≤ SetTable.runEnd m i - i
    · have e := nth_run m i b K c
      have hf : ((List.range (SetTable.runEnd m i + 1 - i)).find? fun k => (oAt owner (i + k)).isNone) = some K :=
        find_range _ (by omega) (by rw [e] at hfree; exact hfree) fun k' hk' => by
          have q := hocc k' hk'
          rw [nth_run m i b k' (by omega)] at q
          exact q
      rw [free_succ, hf]
      exact congrArg some (congrArg SetTable.Probe.j e).symm
    · have hf : ((List.range (SetTable.runEnd m i + 1 - i)).find? fun k => (oAt owner (i + k)).isNone) = none :=
        find_range_none _ fun k' hk' => by
          have q := hocc k' (by omega)
          rw [nth_run m i b k' (by omega)] at q
          exact q
      cases n with
      | zero =>
        have z : K ≤ 0 := hK
        omega
      | succ n =>
        have z : K ≤ (SetTable.runEnd m i - i + 1) + off m (SetTable.leap m i b).1 (SetTable.leap m i b).2 n := hK
        obtain ⟨K', eK⟩ : ∃ K', K = SetTable.runEnd m i - i + 1 + K' := ⟨K - (SetTable.runEnd m i - i + 1), by omega⟩
        subst eK
        have shift : ∀ k, nth m (runAt m i b) (SetTable.runEnd m i - i + 1 + k) = nth m (runAt m (SetTable.leap m i b).1 (SetTable.leap m i b).2) k := fun k => by
          rw [nth_add, nth_leap]
        have ih := free_spec m owner f n (SetTable.leap m i b).1 (SetTable.leap m i b).2 K' (by omega) (by omega)
          (fun k hk => by
            have q := hocc (SetTable.runEnd m i - i + 1 + k) (by omega)
            rw [shift] at q
            exact q)
          (by rw [shift] at hfree; exact hfree)
        rw [free_succ, hf, shift]
        exact ih
/-- the n-th run's first state -/
def itL (m : Nat) : Nat → Nat → Nat → Nat × Nat
  | i, b, 0 => (i, b)
  | i, b, n + 1 => itL m (SetTable.leap m i b).1 (SetTable.leap m i b).2 n
theorem itL_back (m : Nat) : ∀ (n i b : Nat), itL m i b (n + 1) = SetTable.leap m (itL m i b n).1 (itL m i b n).2
  | 0, _, _ => rfl
  | n + 1, i, b => itL_back m n (SetTable.leap m i b).1 (SetTable.leap m i b).2
theorem nth_off (m : Nat) : ∀ (n i b : Nat), nth m (runAt m i b) (off m i b n) = runAt m (itL m i b n).1 (itL m i b n).2
  | 0, _, _ => rfl
  | n + 1, i, b => by
    show nth m (runAt m i b) ((SetTable.runEnd m i - i + 1) + off m (SetTable.leap m i b).1 (SetTable.leap m i b).2 n) = _
    rw [nth_add, nth_leap]
    exact nth_off m n _ _
theorem itL_run (m b : Nat) : ∀ n, itL m (b % (m + 1)) b n = (runI m b n, b / 32 ^ n)
  | 0 => by
    show (b % (m + 1), b) = (b % (m + 1), b / 32 ^ 0)
    rw [Nat.pow_zero, Nat.div_one]
  | n + 1 => by
    rw [itL_back, itL_run m b n]
    show ((runI m b n * 5 + 1 + b / 32 ^ n / 32) % (m + 1), b / 32 ^ n / 32) = _
    rw [pow_div] <;> rfl
/-- a free slot is found, at the first free place of the way -/
theorem free_find {m : Nat} (hm : MaskOk m) (owner : Array (Option Nat)) (h : Int) {j : Nat} (hj : j ≤ m) (hf : oAt owner j = none) :
    ∃ K, SetTable.layClean.free m owner (SetTable.turns m) (SetTable.bits h % (m + 1)) (SetTable.bits h) = some (way m h K) ∧ oAt owner (way m h K) = none ∧ ∀ k, k < K → oAt owner (way m h k) ≠ none := by
  obtain ⟨n, hn, e⟩ := run_meets hm h hj
  have hw : way m h (off m (SetTable.bits h % (m + 1)) (SetTable.bits h) n) = j := by
    show (nth m (runAt m (SetTable.bits h % (m + 1)) (SetTable.bits h)) (off m (SetTable.bits h % (m + 1)) (SetTable.bits h) n)).j = j
    rw [nth_off, itL_run]
    exact e
  obtain ⟨K, k1, k2, k3⟩ := st_least (p := fun k => oAt owner (way m h k) = none) (off m (SetTable.bits h % (m + 1)) (SetTable.bits h) n) (by
    show oAt owner (way m h (off m (SetTable.bits h % (m + 1)) (SetTable.bits h) n)) = none
    rw [show way m h (off m (SetTable.bits h % (m + 1)) (SetTable.bits h) n) = j from hw]
    exact hf)
  refine ⟨K, ?_, k2, k3⟩
  refine free_spec m owner (SetTable.turns m) n _ _ K (by unfold SetTable.turns; omega) k1 (fun k hk => ?_) ?_
  · have q := k3 k hk
    cases z : oAt owner (nth m (runAt m (SetTable.bits h % (m + 1)) (SetTable.bits h)) k).j with
    | none => exact absurd z q
    | some _ => rfl
  · have q : oAt owner (nth m (runAt m (SetTable.bits h % (m + 1)) (SetTable.bits h)) K).j = none := k2
    rw [q] <;> rfl

/-! ### who sits where -/
theorem oAt_set_self {owner : Array (Option Nat)} {j : Nat} (v : Option Nat) (hj : j < owner.size) : oAt (owner.setIfInBounds j v) j = v := by
  show (owner.setIfInBounds j v).getD j (some 0) = v
  rw [Array.getD_eq_getD_getElem?, Array.getElem?_setIfInBounds, if_pos rfl, if_pos hj] <;> rfl
theorem oAt_set_ne {owner : Array (Option Nat)} {i j : Nat} (v : Option Nat) (h : i ≠ j) : oAt (owner.setIfInBounds j v) i = oAt owner i := by
  show (owner.setIfInBounds j v).getD i (some 0) = owner.getD i (some 0)
  rw [Array.getD_eq_getD_getElem?, Array.getD_eq_getD_getElem?, Array.getElem?_setIfInBounds, if_neg (Ne.symm h)]
theorem oAt_init {m j : Nat} (hj : j ≤ m) : oAt (Array.replicate (m + 1) none) j = none := by
  have h : j < m + 1 := Nat.lt_succ_of_le hj
  show (Array.replicate (m + 1) (none : Option Nat)).getD j (some 0) = none
  rw [Array.getD_eq_getD_getElem?, Array.getElem?_replicate, if_pos h] <;> rfl
theorem oAt_none {owner : Array (Option Nat)} {j : Nat} (hj : j < owner.size) : owner.getD j none = oAt owner j := by
  show owner.getD j none = owner.getD j (some 0)
  rw [Array.getD_eq_getD_getElem?, Array.getD_eq_getD_getElem?, Array.getElem?_eq_getElem hj] <;> rfl
structure Own (m : Nat) (done : List Int) (owner : Array (Option Nat)) : Prop where
  sz : owner.size = m + 1
  at_ : ∀ j k, j ≤ m → oAt owner j = some k → ∃ h K, done[k]? = some h ∧ way m h K = j ∧ ∀ k', k' < K → oAt owner (way m h k') ≠ none
  all : ∀ k, k < done.length → ∃ j, j ≤ m ∧ oAt owner j = some k
  ps : ∃ ps : List Nat, ps.length = done.length ∧ ∀ j, j ≤ m → oAt owner j ≠ none → j ∈ ps
theorem Own.init (m : Nat) : Own m [] (Array.replicate (m + 1) none) where
  sz := by simp
  at_ := fun j k hj e => by
    rw [oAt_init hj] at e
    cases e
  all := fun k hk => absurd hk (Nat.not_lt_zero _)
  ps := ⟨[], rfl, fun j hj e => absurd (oAt_init hj) e⟩
theorem Own.step {m : Nat} (hm : MaskOk m) {done : List Int} {owner : Array (Option Nat)} (W : Own m done owner) (hl : done.length ≤ m) (h : Int) :
    ∃ j, SetTable.layClean.free m owner (SetTable.turns m) (SetTable.bits h % (m + 1)) (SetTable.bits h) = some j ∧ Own m (done ++ [h]) (owner.setIfInBounds j (some done.length)) := by
  obtain ⟨ps, hps, hin⟩ := W.ps
  obtain ⟨j0, h0, hn0⟩ := st_missing ps (m + 1) (by omega)
  have hj0 : oAt owner j0 = none := by
    cases z : oAt owner j0 with
    | none => rfl
    | some k => exact absurd (hin j0 (Nat.le_of_lt_succ h0) (by rw [z]; exact fun e => nomatch e)) hn0
  obtain ⟨K, e1, e2, e3⟩ := free_find hm owner h (Nat.le_of_lt_succ h0) hj0
  have hjm : way m h K ≤ m := way_le hm
  have hjs : way m h K < owner.size := by
    rw [W.sz]
    exact Nat.lt_succ_of_le hjm
  refine ⟨way m h K, e1, ?_⟩
  have hself := oAt_set_self (some done.length) hjs
  have mono : ∀ {i : Nat}, oAt owner i ≠ none → oAt (owner.setIfInBounds (way m h K) (some done.length)) i ≠ none := fun {i} hi => by
    by_cases c : i = way m h K
    · rw [c, hself]
      exact fun e => nomatch e
    · rw [oAt_set_ne _ c]
      exact hi
  refine ⟨by rw [Array.size_setIfInBounds]; exact W.sz, fun j k hj e => ?_, fun k hk => ?_, ⟨way m h K :: ps, by rw [List.length_cons, List.length_append, hps] <;> rfl, fun j hj e => ?_⟩⟩
  · by_cases c : j = way m h K
    · rw [c, hself] at e
      have ek : done.length = k := Option.some.inj e
      refine ⟨h, K, ?_, c.symm, fun k' hk' => mono (e3 k' hk')⟩
      rw [← ek, List.getElem?_append_right (Nat.le_refl _), Nat.sub_self] <;> rfl
    · rw [oAt_set_ne _ c] at e
      obtain ⟨h', K', a1, a2, a3⟩ := W.at_ j k hj e
      refine ⟨h', K', ?_, a2, fun k' hk' => mono (a3 k' hk')⟩
      rw [List.getElem?_append_left (List.getElem?_eq_some_iff.mp a1).1]
      exact a1
  · rw [List.length_append, List.length_singleton] at hk
    by_cases c : k < done.length
    · obtain ⟨j, hj, e⟩ := W.all k c
      refine ⟨j, hj, ?_⟩
      rw [oAt_set_ne _ (fun z => by rw [z, e2] at e; cases e)]
      exact e
    · have ek : k = done.length := by omega
      rw [ek]
      exact ⟨way m h K, hjm, hself⟩
  · by_cases c : j = way m h K
    · rw [c]
      exact List.mem_cons_self
    · rw [oAt_set_ne _ c] at e
      exact List.mem_cons_of_mem _ (hin j hj e)

/-! ### layClean -/
def stepF (mask : Nat) (acc : Option (Array (Option Nat) × Nat)) (h : Int) : Option (Array (Option Nat) × Nat) := do
  let (owner, k) ← acc
  let j ← SetTable.layClean.free mask owner (SetTable.turns mask) (SetTable.bits h % (mask + 1)) (SetTable.bits h)
  pure (owner.setIfInBounds j (some k), k + 1)
theorem layClean_eq (m : Nat) (hs : Array Int) : SetTable.layClean m hs = (hs.toList.foldl (stepF m) (some (Array.replicate (m + 1) none, 0))).map (·.1) := by
  unfold SetTable.layClean
  rw [← Array.foldl_toList] <;> rfl
theorem stepF_some {m k j : Nat} {owner : Array (Option Nat)} {h : Int} (e : SetTable.layClean.free m owner (SetTable.turns m) (SetTable.bits h % (m + 1)) (SetTable.bits h) = some j) :
    stepF m (some (owner, k)) h = some (owner.setIfInBounds j (some k), k + 1) := by
  show (SetTable.layClean.free m owner (SetTable.turns m) (SetTable.bits h % (m + 1)) (SetTable.bits h)).bind (fun j => some (owner.setIfInBounds j (some k), k + 1)) = _
  rw [e] <;> rfl
theorem fold_ok {m : Nat} (hm : MaskOk m) : ∀ (rest done : List Int) (owner : Array (Option Nat)), Own m done owner → done.length + rest.length ≤ m →
    ∃ owner', rest.foldl (stepF m) (some (owner, done.length)) = some (owner', (done ++ rest).length) ∧ Own m (done ++ rest) owner'
  | [], done, owner, W, _ => ⟨owner, by rw [List.append_nil] <;> rfl, by rw [List.append_nil]; exact W⟩
  | h :: rest, done, owner, W, hl => by
    rw [List.length_cons] at hl
    obtain ⟨j, e, W'⟩ := W.step hm (by omega) h
    have hl' : (done ++ [h]).length = done.length + 1 := by rw [List.length_append] <;> rfl
    obtain ⟨owner', f, W2⟩ := fold_ok hm rest (done ++ [h]) _ W' (by rw [hl']; omega)
    have ea : done ++ [h] ++ rest = done ++ h :: rest := by rw [List.append_assoc] <;> rfl
    rw [ea, hl'] at f
    rw [ea] at W2
    refine ⟨owner', ?_, W2⟩
    rw [List.foldl_cons, stepF_some e]
    exact f
theorem layClean_ok {m : Nat} (hm : MaskOk m) {hs : Array Int} (hn : hs.size ≤ m) : ∃ owner, SetTable.layClean m hs = some owner ∧ Own m hs.toList owner := by
  obtain ⟨owner, f, W⟩ := fold_ok hm hs.toList [] _ (Own.init m) (by rw [Array.length_toList]; show 0 + hs.size ≤ m; omega)
  rw [List.nil_append] at W
  refine ⟨owner, ?_, W⟩
  rw [layClean_eq]
  have f' : hs.toList.foldl (stepF m) (some (Array.replicate (m + 1) none, 0)) = some (owner, ([] ++ hs.toList).length) := f
  rw [f'] <;> rfl

/-! ### the new table -/
def liveOf (m : Nat) (owner : Array (Option Nat)) : List (Nat × Nat) := (List.range (m + 1)).filterMap fun j => (owner.getD j none).map (j, ·)
def tabOf (t : SetTable) (m : Nat) (owner : Array (Option Nat)) : SetTable :=
  { mask := m, place := ((liveOf m owner).map (·.1)).toArray, dummies := #[], finger := t.finger, led := t.led, moves := t.movedTo m, plain := t.plain }
theorem relaid_eq (t : SetTable) (hs : Array Int) (wanted : Nat) : t.relaid hs wanted = (SetTable.layClean (SetTable.sizeAbove wanted - 1) hs).bind fun owner =>
    some (tabOf t (SetTable.sizeAbove wanted - 1) owner, ((liveOf (SetTable.sizeAbove wanted - 1) owner).map (·.2)).toArray) := rfl
theorem mem_live {m : Nat} {owner : Array (Option Nat)} (hs : owner.size = m + 1) {j k : Nat} : (j, k) ∈ liveOf m owner ↔ j ≤ m ∧ oAt owner j = some k := by
  unfold liveOf
  rw [List.mem_filterMap]
  constructor
  · intro z
    obtain ⟨a, ha, e⟩ := z
    have ham : a < m + 1 := List.mem_range.mp ha
    rw [oAt_none (by rw [hs]; exact ham)] at e
    obtain ⟨x, hx, ex⟩ := Option.map_eq_some_iff.mp e
    have e1 : a = j := congrArg Prod.fst ex
    have e2 : x = k := congrArg Prod.snd ex
    subst e1
    subst e2
    exact ⟨Nat.le_of_lt_succ ham, hx⟩
  · intro z
    obtain ⟨hj, e⟩ := z
    refine ⟨j, List.mem_range.mpr (Nat.lt_succ_of_le hj), ?_⟩
    rw [oAt_none (by rw [hs]; exact Nat.lt_succ_of_le hj), e] <;> rfl
theorem perm_range : ∀ (n : Nat) (l : List Nat), l.length = n → (∀ k, k < n → k ∈ l) → l.Perm (List.range n)
  | 0, l, hl, _ => by
    rw [List.eq_nil_of_length_eq_zero hl]
    exact List.Perm.refl _
  | n + 1, l, hl, h => by
    have hn : n ∈ l := h n (Nat.lt_succ_self n)
    have ih := perm_range n (l.erase n) (by rw [List.length_erase_of_mem hn]; omega) fun k hk => (List.mem_erase_of_ne (Nat.ne_of_lt hk)).2 (h k (Nat.lt_succ_of_lt hk))
    rw [List.range_succ]
    exact (List.perm_cons_erase hn).trans ((ih.cons n).trans (List.perm_append_singleton n _).symm)
theorem relaid_ok (t : SetTable) {hs : Array Int} {wanted M : Nat} (hw : SetTable.sizeAbove wanted - 1 = M) (hM : MaskOk M) (hn : hs.size ≤ M) :
    ∃ t' order, t.relaid hs wanted = some (t', order) ∧ order.toList.Perm (List.range hs.size) ∧ TabOk t' (order.toList.map fun i => hs.getD i 0) ∧ t'.mask = M ∧ t'.led = t.led ∧ t'.plain = t.plain ∧ t'.dummies = #[] := by
  obtain ⟨owner, e, W⟩ := layClean_ok hM hn
  have hr : t.relaid hs wanted = some (tabOf t M owner, ((liveOf M owner).map (·.2)).toArray) := by
    rw [relaid_eq, hw, e] <;> rfl
  have ris := ris_live (fun j => owner.getD j none) (List.range (M + 1)) (by
    unfold Ris
    first | exact List.pairwise_lt_range | exact List.pairwise_lt_range _)
  have r1 : Ris ((liveOf M owner).map (·.1)) := ris.1
  have r2 : ∀ x ∈ (liveOf M owner).map (·.1), x ∈ List.range (M + 1) := ris.2
  have nd : ((liveOf M owner).map (·.1)).Nodup := List.Pairwise.imp (fun h => Nat.ne_of_lt h) r1
  have hlen : (liveOf M owner).length = hs.size := by
    obtain ⟨ps, p1, p2⟩ := W.ps
    have a := nat_nodup_len ((liveOf M owner).map (·.1)) ps nd fun x hx => by
      obtain ⟨q, hq, eq1⟩ := List.mem_map.mp hx
      obtain ⟨y, k⟩ := q
      have ey : y = x := eq1
      subst ey
      obtain ⟨b1, b2⟩ := (mem_live W.sz).1 hq
      exact p2 y b1 (by rw [b2]; exact fun z => nomatch z)
    have b := nat_nodup_len (List.range hs.size) ((liveOf M owner).map (·.2)) List.nodup_range fun k hk => by
      obtain ⟨j, b1, b2⟩ := W.all k (by rw [Array.length_toList]; exact List.mem_range.mp hk)
      exact List.mem_map.mpr ⟨(j, k), (mem_live W.sz).2 ⟨b1, b2⟩, rfl⟩
    rw [List.length_map, p1] at a
    rw [List.length_map, List.length_range] at b
    have hz : hs.toList.length = hs.size := rfl
    omega
  refine ⟨tabOf t M owner, ((liveOf M owner).map (·.2)).toArray, hr, ?_, ⟨r1, rfl, ?_, hM, fun x hx => ?_, fun i h j h1 h2 => ?_⟩, rfl, rfl, rfl, rfl⟩
  · refine perm_range hs.size _ ?_ fun k hk => ?_
    · show ((liveOf M owner).map (·.2)).length = hs.size
      rw [List.length_map]
      exact hlen
    · obtain ⟨j, b1, b2⟩ := W.all k (by rw [Array.length_toList]; exact hk)
      exact List.mem_map.mpr ⟨(j, k), (mem_live W.sz).2 ⟨b1, b2⟩, rfl⟩
  · show ((liveOf M owner).map (·.1)).toArray.size = (((liveOf M owner).map (·.2)).map fun i => hs.getD i 0).length
    rw [List.size_toArray, List.length_map, List.length_map, List.length_map]
  · exact Nat.le_of_lt_succ (List.mem_range.mp (r2 x hx))
  · have h1' : (((liveOf M owner).map (·.2)).map fun i => hs.getD i 0)[i]? = some h := h1
    have h2' : ((liveOf M owner).map (·.1))[i]? = some j := h2
    rw [List.getElem?_map, List.getElem?_map] at h1'
    rw [List.getElem?_map] at h2'
    cases hq : (liveOf M owner)[i]? with
    | none =>
      rw [hq] at h2'
      cases h2'
    | some q =>
      obtain ⟨y, k⟩ := q
      rw [hq] at h1' h2'
      have ej : y = j := Option.some.inj h2'
      have eh : hs.getD k 0 = h := Option.some.inj h1'
      subst ej
      obtain ⟨b1, b2⟩ := (mem_live W.sz).1 (List.mem_of_getElem? hq)
      obtain ⟨h0, K, a1, a2, a3⟩ := W.at_ y k b1 b2
      have e0 : hs.getD k 0 = h0 := by
        rw [Array.getD_eq_getD_getElem?, ← Array.getElem?_toList, a1] <;> rfl
      have ehh : h0 = h := e0.symm.trans eh
      subst ehh
      refine ⟨K, a2, fun k' hk' => ?_⟩
      show way M h0 k' ∈ (liveOf M owner).map (·.1)
      cases z : oAt owner (way M h0 k') with
      | none => exact absurd z (a3 k' hk')
      | some k2 => exact List.mem_map.mpr ⟨(way M h0 k', k2), (mem_live W.sz).2 ⟨way_le hM, z⟩, rfl⟩
theorem size_20 : SetTable.sizeAbove (SetTable.grown 5) = 32 := by decide +kernel
theorem size_76 : SetTable.sizeAbove (SetTable.grown 19) = 128 := by decide +kernel
theorem size_308 : SetTable.sizeAbove (SetTable.grown 77) = 512 := by decide +kernel
end Tz
namespace Tz
open PySem PySem.Spec PyProof.Rows L2
abbrev TK (P : Program) (w : World) : HeapKind P w (List Key) := tupleKind (mixKind P w)
abbrev thash (P : Program) (w : World) (k : List Key) : Int := tupleKeyHash (mixKind P w) k
/-- the tuple at a has the ints k -/
abbrev IsT (P : Program) (w : World) (h : Heap) (k : List Key) (a : Addr) : Prop := IsTupleKey (mixKind P w) h k a

/-! ### the model's words, opened -/
/-- behind a candidate (the model's text from «let some (_, y)» on) -/
def searchRest (a : Addr) (x : Value) (h : Int) (adding : Bool) (fuel : Nat) (es : Array (Int × Value)) (t : SetTable) (j i : Nat) (next : SetTable.Probe) : Sem SetFound := do
  let some (_, y) := es[i]? | unsupported "internal:set-entry"
  let equal ← holding [y] (eqBool y x)
  let (es', _, t') ← setState a
  if adding && equal then return .there none
  let some same := t'.sameMemory t.moves t.mask | unsupported "set.changed-during-lookup:is-the-new-block-at-the-old-address"
  let still ← match (if same then t'.slot j else .empty) with
    | .live i' => match es'[i']? with
      | some (_, y') => do pure (if ← isSame y' y then some i' else none)
      | none => pure none
    | _ => pure none
  match still with
  | none => rule "set.search.anew"; setSearchFrom a x h adding fuel none
  | some i' => if equal then return .there (some i') else setSearchFrom a x h adding fuel (some next)
theorem setSearchFrom_succ (a : Addr) (x : Value) (h : Int) (adding : Bool) (fuel : Nat) (stand : Option SetTable.Probe) : setSearchFrom a x h adding (fuel + 1) stand = (do
    let (es, _, t) ← setState a
    if t.gaveWay then unsupported "set:on-a-table-that-gave-way"
    let some met := t.probe (fun i => (es[i]?.map (·.1)).getD 0) h (stand.getD (t.probeStart h)) | unsupported "internal:set-table-without-an-empty-slot"
    match met with
    | .empty j dummy =>
      match dummy with
      | none => return .free j false
      | some d =>
        if adding && t.slot d != .dummy then rule "set.search.the-dummy-was-taken"; return ← setSearchFrom a x h adding fuel none
        return .free d true
    | .candidate j i next =>
      if !t.led then
        if ← searchCouldBeSeen x ((es.filter (·.1 == h)).toList.map (·.2)) then unsupported "set:the-search-would-show-the-table"
      searchRest a x h adding fuel es t j i next) := by rfl

section
variable {P : Program} {w : World} {A : Around} {E : Value → Shared → Prop} {s : Shared}

/-! ### small questions asked of tuples -/
theorem items_int {k : List Key} {vs : List Value} (h : ItemsAre (mixKind P w) k vs) : ∀ v ∈ vs, Flat1 v := by
  induction h with
  | nil => intro v hv; cases hv
  | @cons k0 v' ks vs h1 _ ih =>
    intro v hv
    rcases List.mem_cons.mp hv with e | hv
    · rw [e]
      rcases keyIs_shape h1 with ⟨i, t, _, e2⟩ | ⟨x, t, _, e2⟩
      · exact .inl ⟨i, t, e2⟩
      · exact .inr ⟨x, t, e2⟩
    · exact ih v hv
theorem ofAClass_f {v : Value} (h : Flat1 v) {n : Nat} : ofAClassStatement n v = pure false := by
  rcases h with ⟨i, t, rfl⟩ | ⟨x, t, rfl⟩ <;> cases n <;> rfl
theorem hashBy_f {v : Value} (h : Flat1 v) {n : Nat} : ∃ c, hashByValue n v = pure c := by
  rcases h with ⟨i, t, rfl⟩ | ⟨x, t, rfl⟩
  · exact ⟨true, by cases n <;> rfl⟩
  · exact ⟨false, by cases n <;> rfl⟩
theorem ofAClass_tup {k : List Key} {b : Addr} {Q : Bool → Shared → Prop} (hk : IsT P w s.heap k b) (h : Q false s) : wpAny (model P w) A (ofAClassStatement 8 (.ref b)) Q E s := by
  have hT := hk.typeIs
  obtain ⟨o, items, n, ho, _, hd, hi⟩ := hk
  unfold ofAClassStatement
  refine wpAny_bind (wpAny_typeOf hT ?_)
  dsimp only
  have e : (("tuple" : String) == "tuple") = true := by decide
  simp only [e, if_true, Bool.not_true, Bool.false_eq_true, if_false]
  try refine wpAny_bind (wpAny_pure ?_)
  try simp only [Bool.not_true, Bool.false_eq_true, if_false]
  show wpAny _ _ (seqItems? (.ref b) >>= _) _ _ s
  refine wpAny_bind (wpAny_seqItems ho hd ?_)
  dsimp only
  refine wpAny_bind ?_
  show wpAny _ _ (forIn items _ _) _ _ s
  rw [← Array.forIn_toList]
  refine wpAny_forIn_list _ (fun rest r s' => r.1 = none ∧ s' = s ∧ ∀ v ∈ rest, Flat1 v) _ ?_ ?_ _ _ ⟨rfl, rfl, items_int hi⟩
  · rintro v rest r s' ⟨hr, rfl, hall⟩
    rw [ofAClass_f (hall v List.mem_cons_self)]
    refine wpAny_bind (wpAny_pure ?_)
    simp only [Bool.false_eq_true, if_false]
    exact wpAny_pure ⟨rfl, rfl, fun u hu' => hall u (List.mem_cons_of_mem _ hu')⟩
  · rintro ⟨r1, r2⟩ s' ⟨hr, rfl, _⟩
    simp only at hr
    subst hr
    exact wpAny_pure h
theorem hashBy_tup {k : List Key} {b : Addr} {Q : Bool → Shared → Prop} (hk : IsT P w s.heap k b) (h : ∀ c, Q c s) : wpAny (model P w) A (hashByValue 8 (.ref b)) Q E s := by
  have hT := hk.typeIs
  obtain ⟨o, items, n, ho, _, hd, hi⟩ := hk
  unfold hashByValue
  refine wpAny_bind (wpAny_specialOf hT F.slot_tuple_hash.lookup ?_)
  show wpAny _ _ (seqItems? (.ref b) >>= _) _ _ s
  refine wpAny_bind (wpAny_seqItems ho hd ?_)
  refine wpAny_bind ?_
  show wpAny _ _ (forIn items _ _) _ _ s
  rw [← Array.forIn_toList]
  refine wpAny_forIn_list _ (fun rest r s' => r.1 = none ∧ s' = s ∧ ∀ v ∈ rest, Flat1 v) _ ?_ ?_ _ _ ⟨rfl, rfl, items_int hi⟩
  · rintro v rest r s' ⟨hr, rfl, hall⟩
    obtain ⟨cc, ec⟩ := hashBy_f (hall v List.mem_cons_self) (n := 7)
    rw [ec]
    refine wpAny_bind (wpAny_pure ?_)
    cases cc with
    | true =>
      simp only [Bool.not_true, Bool.false_eq_true, if_false]
      exact wpAny_pure ⟨rfl, rfl, fun u hu' => hall u (List.mem_cons_of_mem _ hu')⟩
    | false =>
      simp only [Bool.not_false, if_true]
      exact wpAny_pure (wpAny_pure (h false))
  · rintro ⟨r1, r2⟩ s' ⟨hr, rfl, _⟩
    simp only at hr
    subst hr
    exact wpAny_pure (h true)
/-- a search among tuples shows nothing -/
theorem seen_tup {k : List Key} {b : Addr} {Q : Bool → Shared → Prop} (hk : IsT P w s.heap k b) {ys : List Value} (hy : ∀ y ∈ ys, ∃ k' c, y = Value.ref c ∧ IsT P w s.heap k' c) (h : Q false s) :
    wpAny (model P w) A (searchCouldBeSeen (.ref b) ys) Q E s := by
  unfold searchCouldBeSeen
  refine wpAny_bind ?_
  refine wpAny_forIn_list _ (fun rest r s' => r.1 = none ∧ s' = s ∧ ∀ y ∈ rest, ∃ k' c, y = Value.ref c ∧ IsT P w s.heap k' c) _ ?_ ?_ _ _ ⟨rfl, rfl, hy⟩
  · rintro v rest r s' ⟨hr, rfl, hall⟩
    obtain ⟨k', c, rfl, hc⟩ := hall v List.mem_cons_self
    have rest' : ∀ y ∈ rest, ∃ k' c, y = Value.ref c ∧ IsT P w s'.heap k' c := fun u hu' => hall u (List.mem_cons_of_mem _ hu')
    dsimp only
    by_cases hv : (b == c || (carriedByValue (.ref b) && carriedByValue (.ref c))) = true
    · refine wp_if_pos hv ?_
      exact wpAny_pure ⟨rfl, rfl, rest'⟩
    · refine wp_if_neg hv ?_
      refine wpAny_bind (wpAny_eqIsQuiet_tuple hk ?_)
      simp only [Bool.not_true, Bool.false_eq_true, if_false]
      refine wpAny_bind (wpAny_eqIsQuiet_tuple hc ?_)
      simp only [Bool.not_true, Bool.false_eq_true, if_false]
      refine wpAny_bind (ofAClass_tup hk ?_)
      simp only [Bool.false_eq_true, if_false]
      refine wpAny_bind (ofAClass_tup hc ?_)
      simp only [Bool.false_eq_true, if_false]
      exact wpAny_pure ⟨rfl, rfl, rest'⟩
  · rintro ⟨r1, r2⟩ s' ⟨hr, rfl, _⟩
    simp only at hr
    subst hr
    exact wpAny_pure h

/-! ### the set of tuples -/
def rowsOf (P : Program) (w : World) (L : List (Addr × List Key)) : List (Int × Value) := L.map fun p => (thash P w p.2, Value.ref p.1)
structure SetTR (P : Program) (w : World) (h : Heap) (a : Addr) (L : List (Addr × List Key)) (es : Array (Int × Value)) (ep : Nat) (t : SetTable) : Prop where
  ob : ∃ o, h.get? a = some o ∧ o.ExactSet ∧ o.data = .set es ep t
  rows : es.toList = rowsOf P w L
  tab : TabOk t (L.map fun p => thash P w p.2)
  nd : (L.map (·.2)).Nodup
  tup : ∀ p ∈ L, IsT P w h p.2 p.1
  plain : True
  led : w.params.followText "set-order" = true ∨ t.led = true
  room : L.length * 5 < t.mask * 3
  few : L.length < 300
variable {a : Addr} {L : List (Addr × List Key)} {es : Array (Int × Value)} {ep : Nat} {t : SetTable}
theorem SetTR.size (R : SetTR P w s.heap a L es ep t) : es.size = L.length := by
  have h := congrArg List.length R.rows
  unfold rowsOf at h
  rw [Array.length_toList, List.length_map] at h
  exact h
theorem SetTR.fits (R : SetTR P w s.heap a L es ep t) : t.fits es.size = true := by
  have h1 := R.tab.sz
  rw [List.length_map] at h1
  have h2 := R.size
  have h3 := R.room
  unfold SetTable.fits SetTable.fill
  rw [R.tab.dm, Bool.and_eq_true, beq_iff_eq, decide_eq_true_eq]
  show t.place.size = es.size ∧ t.place.size + 0 ≤ t.mask
  omega
theorem SetTR.entry (R : SetTR P w s.heap a L es ep t) {i : Nat} {p : Addr × List Key} (h : L[i]? = some p) : es[i]? = some (thash P w p.2, Value.ref p.1) := by
  rw [← Array.getElem?_toList, R.rows]
  unfold rowsOf
  rw [List.getElem?_map, h] <;> rfl
theorem SetTR.gw (R : SetTR P w s.heap a L es ep t) : ¬ t.gaveWay = true := by
  unfold SetTable.gaveWay
  rw [mask_odd R.tab.mok]
  decide
theorem sameMem (t : SetTable) : t.sameMemory t.moves t.mask = some true := by
  unfold SetTable.sameMemory
  rw [if_pos (beq_self_eq_true _)]

/-- THE SEARCH: from the c-th step of the way on -/
theorem search_from (R : SetTR P w s.heap a L es ep t) {x : Addr} {k : List Key} (hx : IsT P w s.heap k x) (hu : A.units < cLine) {K : Nat} (hKf : K < 10 * SetTable.turns t.mask)
    (hK : way t.mask (thash P w k) K ∉ t.place.toList) (hKb : ∀ c, c < K → way t.mask (thash P w k) c ∈ t.place.toList) {Q : SetFound → Shared → Prop}
    (hin : k ∈ L.map (·.2) → Q (.there none) s) (hout : k ∉ L.map (·.2) → Q (.free (way t.mask (thash P w k) K) false) s) :
    ∀ (f c : Nat) (stand : Option SetTable.Probe), stand.getD (t.probeStart (thash P w k)) = nth t.mask (runAt t.mask (SetTable.bits (thash P w k) % (t.mask + 1)) (SetTable.bits (thash P w k))) c → c ≤ K → K - c < f →
      (∀ (i : Nat) p, L[i]? = some p → p.2 = k → ∃ c', c ≤ c' ∧ c' < K ∧ t.place.toList[i]? = some (way t.mask (thash P w k) c')) →
      wpAny (model P w) A (setSearchFrom a (.ref x) (thash P w k) true f stand) Q E s
  | 0, c, stand, _, _, hf, _ => absurd hf (Nat.not_lt_zero _)
  | f + 1, c, stand, hst, hc, hf, hre => by
    obtain ⟨o, ho, hex, hd⟩ := R.ob
    rw [setSearchFrom_succ]
    refine wpAny_bind (wpAny_setState_of ho hd R.fits ?_)
    dsimp only
    refine wp_if_neg R.gw ?_
    try refine wpAny_bind (wpAny_pure ?_)
    have hnd : (nth t.mask (runAt t.mask (SetTable.bits (thash P w k) % (t.mask + 1)) (SetTable.bits (thash P w k))) c).dummy = none := by
      have key : ∀ (n : Nat) (p : SetTable.Probe), p.dummy = none → (nth t.mask p n).dummy = none := by
        intro n
        induction n with
        | zero => intro p h; exact h
        | succ n ih =>
          intro p h
          refine ih (adv t.mask p) ?_
          unfold adv
          split <;> exact h
      exact key c _ rfl
    have sh : ∀ q, nth t.mask (nth t.mask (runAt t.mask (SetTable.bits (thash P w k) % (t.mask + 1)) (SetTable.bits (thash P w k))) c) q = nth t.mask (runAt t.mask (SetTable.bits (thash P w k) % (t.mask + 1)) (SetTable.bits (thash P w k))) (c + q) := fun q => (nth_add t.mask c _ q).symm
    have e1 : ∀ q, (nth t.mask (nth t.mask (runAt t.mask (SetTable.bits (thash P w k) % (t.mask + 1)) (SetTable.bits (thash P w k))) c) q).j = way t.mask (thash P w k) (c + q) := fun q => congrArg SetTable.Probe.j (sh q)
    have spec := go_spec t R.tab.ris R.tab.dm (fun i => (es[i]?.map (·.1)).getD 0) (thash P w k) (10 * SetTable.turns t.mask) (K - c) _ hnd (by omega)
      (fun q hq => by rw [e1]; exact hKb (c + q) (by omega)) (by rw [e1, show c + (K - c) = K by omega]; exact hK)
    have hashAt : ∀ (i : Nat) p, L[i]? = some p → (fun i => (es[i]?.map (·.1)).getD 0) i = thash P w p.2 := fun i p hp => by
      show (es[i]?.map (·.1)).getD 0 = _
      rw [R.entry hp] <;> rfl
    rcases spec with ⟨q, i, hq, hi, hh, hno, hpr⟩ | ⟨hno, hpr⟩
    · -- a candidate
      have hpr' : t.probe (fun i => (es[i]?.map (·.1)).getD 0) (thash P w k) (stand.getD (t.probeStart (thash P w k))) = some (.candidate (way t.mask (thash P w k) (c + q)) i (nth t.mask (runAt t.mask (SetTable.bits (thash P w k) % (t.mask + 1)) (SetTable.bits (thash P w k))) (c + (q + 1)))) := by
        rw [hst, ← e1, ← sh]
        exact hpr
      rw [hpr']
      dsimp only
      rw [e1] at hi
      -- the entry
      have hil : i < L.length := by
        have h1 : i < t.place.toList.length := (List.getElem?_eq_some_iff.mp hi).1
        have h2 := R.tab.sz
        rw [List.length_map] at h2
        rw [Array.length_toList] at h1
        omega
      have hp : L[i]? = some L[i] := List.getElem?_eq_getElem hil
      generalize hpe : L[i] = p at hp
      have hmem : p ∈ L := List.mem_of_getElem? hp
      have hpt := R.tup p hmem
      have rest : wpAny (model P w) A (searchRest a (.ref x) (thash P w k) true f es t (way t.mask (thash P w k) (c + q)) i (nth t.mask (runAt t.mask (SetTable.bits (thash P w k) % (t.mask + 1)) (SetTable.bits (thash P w k))) (c + (q + 1)))) Q E s := by
        unfold searchRest
        rw [R.entry hp]
        dsimp only
        refine wpAny_bind (wpAny_holding (wpAny_eqBool_tuple hu hpt hx ?_))
        refine wpAny_bind (wpAny_setState_of ho hd R.fits ?_)
        dsimp only
        by_cases hkk : p.2 = k
        · refine wp_if_pos (by simp [hkk]) ?_
          refine wpAny_pure (hin ?_)
          exact List.mem_map.mpr ⟨p, hmem, hkk⟩
        · refine wp_if_neg (by simp [hkk]) ?_
          try refine wpAny_bind (wpAny_pure ?_)
          rw [sameMem]
          dsimp only
          have hsl : t.slot (way t.mask (thash P w k) (c + q)) = .live i := slot_live R.tab.ris hi
          simp only [if_true, hsl, R.entry hp]
          refine wpAny_bind (wpAny_isSame_ref_self (wpAny_bind (wpAny_pure ?_)))
          simp only [if_true]
          refine wp_if_neg (by simp [hkk]) ?_
          refine search_from R hx hu hKf hK hKb hin hout f (c + (q + 1)) _ rfl (by omega) (by omega) fun i0 p0 h0 hk0 => ?_
          obtain ⟨c', a1, a2, a3⟩ := hre i0 p0 h0 hk0
          refine ⟨c', ?_, a2, a3⟩
          -- it isn't passed
          rcases Nat.lt_or_ge c' (c + q) with z | z
          · exfalso
            refine hno (c' - c) i0 (by omega) (by rw [e1, show c + (c' - c) = c' by omega]; exact a3) ?_
            exact (hashAt i0 p0 h0).trans (congrArg (thash P w) hk0)
          · rcases Nat.lt_or_ge (c + q) c' with y | y
            · omega
            · exfalso
              have ec : c' = c + q := Nat.le_antisymm y z
              rw [ec] at a3
              have s0 := slot_live R.tab.ris a3
              rw [hsl] at s0
              injection s0 with s0
              rw [← s0, hp] at h0
              exact hkk ((congrArg Prod.snd (Option.some.inj h0)).trans hk0)
      by_cases hl : t.led = true
      · refine wp_if_neg (by simp [hl]) ?_
        try refine wpAny_bind (wpAny_pure ?_)
        exact rest
      · refine wp_if_pos (by simp [hl]) ?_
        refine wpAny_bind (seen_tup hx (fun y hy => ?_) ?_)
        · obtain ⟨e, he, ee⟩ := List.mem_map.mp hy
          have he1 : e ∈ es ∧ e.1 = thash P w k := by simpa using he
          have he2 : e ∈ es.toList := by simpa using he1.1
          rw [R.rows] at he2
          obtain ⟨p2, hp2, e2⟩ := List.mem_map.mp he2
          refine ⟨p2.2, p2.1, ?_, R.tup p2 hp2⟩
          rw [← ee, ← e2]
        · refine wp_if_neg (by decide) ?_
          try refine wpAny_bind (wpAny_pure ?_)
          exact rest
    · -- the empty slot
      have hpr' : t.probe (fun i => (es[i]?.map (·.1)).getD 0) (thash P w k) (stand.getD (t.probeStart (thash P w k))) = some (.empty (way t.mask (thash P w k) K) none) := by
        have e2 : way t.mask (thash P w k) K = (nth t.mask (nth t.mask (runAt t.mask (SetTable.bits (thash P w k) % (t.mask + 1)) (SetTable.bits (thash P w k))) c) (K - c)).j := by
          rw [e1, show c + (K - c) = K by omega]
        rw [hst, e2]
        exact hpr
      rw [hpr']
      dsimp only
      refine wpAny_pure (hout fun hm => ?_)
      obtain ⟨p0, h0, hk0⟩ := List.mem_map.mp hm
      obtain ⟨i0, hi0, e0⟩ := List.getElem_of_mem h0
      have h00 : L[i0]? = some p0 := by rw [List.getElem?_eq_getElem hi0, e0]
      obtain ⟨c', a1, a2, a3⟩ := hre i0 p0 h00 hk0
      refine hno (c' - c) i0 (by omega) (by rw [e1, show c + (c' - c) = c' by omega]; exact a3) ?_
      exact (hashAt i0 p0 h00).trans (congrArg (thash P w) hk0)

/-- the search as adding asks for it -/
theorem search_at (R : SetTR P w s.heap a L es ep t) {x : Addr} {k : List Key} (hx : IsT P w s.heap k x) (hu : A.units < cLine) {Q : SetFound → Shared → Prop}
    (hin : k ∈ L.map (·.2) → Q (.there none) s)
    (hout : ∀ K, k ∉ L.map (·.2) → way t.mask (thash P w k) K ∉ t.place.toList → (∀ c, c < K → way t.mask (thash P w k) c ∈ t.place.toList) → Q (.free (way t.mask (thash P w k) K) false) s) :
    wpAny (model P w) A (setSearch a (.ref x) (thash P w k) true) Q E s := by
  have hroom := R.room
  obtain ⟨K, hKf, hK, hKb⟩ := R.tab.first (by rw [List.length_map]; omega) (thash P w k)
  have hbig : K < 100000 := by
    have : 10 * SetTable.turns t.mask ≤ 5300 := by
      unfold SetTable.turns
      rcases R.tab.mok with e | e | e | e <;> omega
    omega
  unfold setSearch
  refine search_from R hx hu hKf hK hKb hin (fun hn => hout K hn hK hKb) 100000 0 none rfl (Nat.zero_le _) (by omega) fun i p hp hk => ?_
  have hi : (L.map fun p => thash P w p.2)[i]? = some (thash P w k) := by rw [List.getElem?_map, hp, ← hk] <;> rfl
  have hil : i < t.place.toList.length := by
    have h1 : i < L.length := (List.getElem?_eq_some_iff.mp hp).1
    have h2 := R.tab.sz
    rw [List.length_map] at h2
    rw [Array.length_toList]
    omega
  have hj := List.getElem?_eq_getElem hil
  obtain ⟨c, hc, e⟩ := R.tab.before hK hi hj
  exact ⟨c, Nat.zero_le _, hc, by rw [hj, e]⟩
end
end Tz

namespace Tz
open PySem PySem.Spec PyProof.Rows L2
theorem setAddHashedIn_succ (a : Addr) (x : Value) (h : Int) (fuel : Nat) : setAddHashedIn a x h (fuel + 1) = (do
    let (es₀, _, t₀) ← setState a
    if byScan x es₀ then
      match ← setAddByScan a x h es₀ t₀ with
      | some added => return added
      | none => return ← setAddHashedIn a x h fuel
    let .free slot wasDummy ← setSearch a x h (adding := true) | return false
    let (es, _, t) ← setState a
    let (t, p) := t.put slot
    let byValue ← if t.plain then hashByValue 8 x else pure true
    let t := if byValue then t else { t with plain := false }
    storeSet a (SetTable.insertAt es p (h, x)) t
    if !wasDummy && t.tooFull then setRelay a (SetTable.grown (es.size + 1))
    return true) := by rfl
theorem setRelay_eq (a : Addr) (wanted : Nat) : setRelay a wanted = (do
    let (es, _, t) ← setState a
    if SetTable.sizeAbove wanted > sizeLine then unsupported "set:memory"
    let (es, t) ← (do
      let some (t, order) := t.relaid (es.map (·.1)) wanted | unsupported "internal:set-table-without-room"
      let es' := order.filterMap (es[·]?)
      if es'.size != es.size then unsupported "internal:set-table-lost-an-element"
      pure (es', t) : Sem (Array (Int × Value) × SetTable))
    storeSet a es t) := by rfl

section
variable {P : Program} {w : World} {A : Around} {E : Value → Shared → Prop} {s : Shared}
/-- a tuple isn't the set -/
theorem isT_same {h h' : Heap} {k : List Key} {a b : Addr} {o : Obj} {es : Array (Int × Value)} {ep : Nat} {t : SetTable} (hb : IsT P w h k b) (ho : h.get? a = some o) (hd : o.data = .set es ep t) (hs : Heap.SameBut a h h') : IsT P w h' k b := by
  obtain ⟨o', items, n, ho', hc, hd', hi⟩ := hb
  have hne : b ≠ a := by
    rintro rfl
    obtain rfl : o' = o := Option.some.inj (ho'.symm.trans ho)
    rw [hd] at hd'
    exact nomatch hd'
  exact ⟨o', items, n, (hs.2 b hne).trans ho', hc, hd', hi⟩
theorem rows_put (L : List (Addr × List Key)) (p : Nat) (x : Addr) (k : List Key) : rowsOf P w (L.take p ++ (x, k) :: L.drop p) = (rowsOf P w L).take p ++ (thash P w k, Value.ref x) :: (rowsOf P w L).drop p := by
  unfold rowsOf
  rw [List.map_append, List.map_cons, List.map_take, List.map_drop]
theorem put_perm {α : Type} (L : List α) (p : Nat) (x : α) : (L.take p ++ x :: L.drop p).Perm (x :: L) := by
  have h : (L.take p ++ x :: L.drop p).Perm (x :: (L.take p ++ L.drop p)) := List.perm_middle
  rw [List.take_append_drop] at h
  exact h
theorem order_rows (L : List (Addr × List Key)) (es : Array (Int × Value)) (order : Array Nat) (hr : es.toList = rowsOf P w L) (hp : order.toList.Perm (List.range L.length)) :
    ∃ L2, (order.filterMap (es[·]?)).toList = rowsOf P w L2 ∧ L2.Perm L ∧ (L2.map fun p => thash P w p.2) = order.toList.map fun i => (es.map (·.1)).getD i 0 := by
  have hsz : es.size = L.length := by
    have h := congrArg List.length hr
    unfold rowsOf at h
    rw [Array.length_toList, List.length_map] at h
    exact h
  have ent : ∀ i (h : i < L.length), es[i]? = some (thash P w (L[i]).2, Value.ref (L[i]).1) := fun i h => by
    rw [← Array.getElem?_toList, hr]
    unfold rowsOf
    rw [List.getElem?_map, List.getElem?_eq_getElem h] <;> rfl
  have key : ∀ l : List Nat, (∀ i ∈ l, i < L.length) → ∃ L2 : List (Addr × List Key), l.filterMap (fun i => es[i]?) = rowsOf P w L2 ∧ L2 = l.filterMap (fun i => L[i]?) ∧ (L2.map fun p => thash P w p.2) = l.map fun i => (es.map (·.1)).getD i 0 := by
    intro l
    induction l with
    | nil => intro _; exact ⟨[], rfl, rfl, rfl⟩
    | cons i l ih =>
      intro hl
      have hi := hl i List.mem_cons_self
      obtain ⟨L2, e1, e2, e3⟩ := ih fun j hj => hl j (List.mem_cons_of_mem _ hj)
      refine ⟨L[i] :: L2, ?_, ?_, ?_⟩
      · rw [List.filterMap_cons_some (ent i hi), e1] <;> rfl
      · rw [List.filterMap_cons_some (List.getElem?_eq_getElem hi), e2]
      · rw [List.map_cons, List.map_cons, e3]
        have hi2 : i < (es.map (·.1)).size := by rw [Array.size_map, hsz]; exact hi
        have e4 : (es.map (·.1)).getD i 0 = thash P w (L[i]).2 := by
          have e5 : (es.map (·.1))[i]? = some (thash P w (L[i]).2) := by rw [Array.getElem?_map, ent i hi] <;> rfl
          simp [Array.getD_eq_getD_getElem?, e5]
        rw [e4]
  obtain ⟨L2, e1, e2, e3⟩ := key order.toList fun i hi => List.mem_range.mp (hp.mem_iff.mp hi)
  refine ⟨L2, by first | (rw [Array.toList_filterMap]; exact e1) | simpa using e1, ?_, e3⟩
  have h1 : L2.Perm ((List.range L.length).filterMap fun i => L[i]?) := by
    rw [e2]
    exact hp.filterMap _
  have h2 : (List.range L.length).filterMap (fun i => L[i]?) = L := by
    have key2 : ∀ n, n ≤ L.length → (List.range n).filterMap (fun i => L[i]?) = L.take n := by
      intro n
      induction n with
      | zero => intro _; rfl
      | succ n ih =>
        intro hn
        have hlt : n < L.length := hn
        rw [List.range_succ, List.filterMap_append, ih (Nat.le_of_lt hlt), List.take_succ, List.getElem?_eq_getElem hlt]
        rw [List.filterMap_cons_some (List.getElem?_eq_getElem hlt)] <;> rfl
    rw [key2 L.length (Nat.le_refl _), List.take_length]
  rw [h2] at h1
  exact h1

variable {a : Addr} {L : List (Addr × List Key)} {es : Array (Int × Value)} {ep : Nat} {t : SetTable}
/-- the table laid anew, larger -/
theorem relay_at {o : Obj} (ho : s.heap.get? a = some o) (hex : o.ExactSet) (hd : o.data = .set es ep t) (hrows : es.toList = rowsOf P w L) (hsz : t.place.size = es.size) (hdm : t.dummies = #[]) (hfl : es.size ≤ t.mask)
    (nd : (L.map (·.2)).Nodup) (tup : ∀ p ∈ L, IsT P w s.heap p.2 p.1) (pl : True) (ld : w.params.followText "set-order" = true ∨ t.led = true) (few : L.length < 300) {wanted M : Nat}
    (hw : SetTable.sizeAbove wanted - 1 = M) (hM : MaskOk M) (hw2 : SetTable.sizeAbove wanted ≤ 512) (hn : L.length * 5 < M * 3) {Q : Unit → Shared → Prop}
    (hQ : ∀ h' L' es' ep' t', Heap.SameBut a s.heap h' → SetTR P w h' a L' es' ep' t' → L'.Perm L → Q () { s with heap := h' }) : wpAny (model P w) A (setRelay a wanted) Q E s := by
  have hsl : es.size = L.length := by
    have h := congrArg List.length hrows
    unfold rowsOf at h
    rw [Array.length_toList, List.length_map] at h
    exact h
  have hfits : t.fits es.size = true := by
    unfold SetTable.fits SetTable.fill
    rw [hdm, Bool.and_eq_true, beq_iff_eq, decide_eq_true_eq]
    show t.place.size = es.size ∧ t.place.size + 0 ≤ t.mask
    omega
  obtain ⟨t', order, e, hp, T, em, el, ep', ed⟩ := relaid_ok t (hs := es.map (·.1)) (wanted := wanted) hw hM (by rw [Array.size_map, hsl]; omega)
  rw [Array.size_map, hsl] at hp
  obtain ⟨L2, r1, r2, r3⟩ := order_rows L es order hrows hp
  rw [← r3] at T
  have hs2 : (order.filterMap (es[·]?)).size = es.size := by
    have h := congrArg List.length r1
    unfold rowsOf at h
    rw [Array.length_toList, List.length_map, r2.length_eq] at h
    rw [h, hsl]
  rw [setRelay_eq]
  refine wpAny_bind (wpAny_setState_of ho hd hfits ?_)
  dsimp only
  refine wp_if_neg (by rw [sizeLine_eq]; omega) ?_
  try refine wpAny_bind (wpAny_pure ?_)
  rw [e]
  dsimp only
  refine wpAny_bind ?_
  refine wp_if_neg (by rw [hs2]; simp) ?_
  try refine wpAny_bind (wpAny_pure ?_)
  refine wpAny_pure ?_
  dsimp only
  refine wpAny_storeSet_of ho hd ?_ (by rw [hs2, hsl, sizeLine_eq]; omega)
  have sb : Heap.SameBut a s.heap (s.heap.update a (Obj.putSet (order.filterMap (es[·]?)) t')) := Heap.SameBut.update ..
  refine hQ _ L2 (order.filterMap (es[·]?)) (ep + 1) t' sb ?_ r2
  refine ⟨⟨_, store_at ho hd, ⟨hex.1, hex.2.1, hex.2.2⟩, rfl⟩, r1, T, ?_, fun p hpm => isT_same (tup p (r2.mem_iff.mp hpm)) ho hd sb, trivial, by rw [el]; exact ld, ?_, by rw [r2.length_eq]; exact few⟩
  · exact (r2.map (·.2)).nodup_iff.mpr nd
  · rw [r2.length_eq, em]
    exact hn

/-- whether it is hashed by value: no matter -/
theorem byv {x : Addr} {k : List Key} (hx : IsT P w s.heap k x) {b : Bool} {K : Bool → Sem Bool} {Q : Bool → Shared → Prop} (h : ∀ c, wpAny (model P w) A (K c) Q E s) : wpAny (model P w) A (if b = true then hashByValue 8 (.ref x) >>= K else pure true >>= K) Q E s := by
  cases b with
  | true => exact wp_if_pos rfl (wpAny_bind (hashBy_tup hx h))
  | false => exact wp_if_neg (by decide) (wpAny_bind (wpAny_pure (h true)))
theorem plain_off {t0 : SetTable} {c : Bool} {hs : List Int} {m n : Nat} {l : Bool} (q3 : TabOk t0 hs) (q4 : t0.mask = m) (q5 : t0.led = l) (q9 : t0.fill = n) :
    ∃ t1, (if c = true then t0 else { t0 with plain := false }) = t1 ∧ TabOk t1 hs ∧ t1.mask = m ∧ t1.led = l ∧ t1.fill = n := by
  cases c with
  | true => exact ⟨t0, rfl, q3, q4, q5, q9⟩
  | false => exact ⟨{ t0 with plain := false }, rfl, ⟨q3.ris, q3.dm, q3.sz, q3.mok, q3.bd, q3.reach⟩, q4, q5, q9⟩
/-- ADDING -/
theorem add_at (R : SetTR P w s.heap a L es ep t) {x : Addr} {k : List Key} (hx : IsT P w s.heap k x) (hu : A.units < cLine) (hfew : k ∉ L.map (·.2) → L.length + 1 < 300) {Q : Bool → Shared → Prop}
    (hQ : ∀ b h' L' es' ep' t', Heap.SameBut a s.heap h' → SetTR P w h' a L' es' ep' t' → (k ∈ L.map (·.2) → L' = L) → (k ∉ L.map (·.2) → L'.Perm ((x, k) :: L)) → Q b { s with heap := h' }) :
    wpAny (model P w) A (setAddHashed a (.ref x) (thash P w k)) Q E s := by
  obtain ⟨o, ho, hex, hd⟩ := R.ob
  have hsl := R.size
  have hroom := R.room
  unfold setAddHashed
  refine wpAny_holding ?_
  rw [show (100000 : Nat) = 99999 + 1 from rfl, setAddHashedIn_succ]
  refine wpAny_bind (wpAny_setState_of ho hd R.fits ?_)
  dsimp only
  refine wp_if_neg (by simp [byScan, Value.scannable]) ?_
  try refine wpAny_bind (wpAny_pure ?_)
  refine wpAny_bind (search_at R hx hu (fun hm => ?_) fun K hm hK hb => ?_)
  · dsimp only
    exact wpAny_pure (hQ false s.heap L es ep t (Heap.SameBut.refl a s.heap) R (fun _ => rfl) fun z => absurd hm z)
  · dsimp only
    have hfew := hfew hm
    refine wpAny_bind (wpAny_setState_of ho hd R.fits ?_)
    dsimp only
    obtain ⟨q1, q2, q3, q4, q5, q6, q7, q8, q9⟩ := R.tab.put hK hb
    have hp1 : True := trivial
    generalize hpt : t.put (way t.mask (thash P w k) K) = pt at q1 q3 q4 q5 q6 q7 q8 q9 hp1 ⊢
    obtain ⟨t0, p⟩ := pt
    dsimp only at q1 q3 q4 q5 q6 q7 q8 q9 ⊢
    subst q1
    refine byv hx fun c => ?_
    obtain ⟨t1, ht1, q3, q4, q5, q9⟩ := plain_off (c := c) q3 q4 q5 q9
    rw [ht1]
    have hin : (SetTable.insertAt es (SetTable.below t.place (way t.mask (thash P w k) K)) (thash P w k, Value.ref x)).toList = rowsOf P w (L.take (SetTable.below t.place (way t.mask (thash P w k) K)) ++ (x, k) :: L.drop (SetTable.below t.place (way t.mask (thash P w k) K))) := by
      rw [SetTable.toList_insertAt, rows_put, R.rows]
    generalize hpp : SetTable.below t.place (way t.mask (thash P w k) K) = p at q2 q3 hin ⊢
    have pm := put_perm L p (x, k)
    have hlen : (L.take p ++ (x, k) :: L.drop p).length = L.length + 1 := pm.length_eq
    have hhs : (L.take p ++ (x, k) :: L.drop p).map (fun p => thash P w p.2) = (L.map fun p => thash P w p.2).take p ++ thash P w k :: (L.map fun p => thash P w p.2).drop p := by
      rw [List.map_append, List.map_cons, List.map_take, List.map_drop]
    rw [← hhs] at q3
    have nd1 : ((L.take p ++ (x, k) :: L.drop p).map (·.2)).Nodup := by
      refine (pm.map (·.2)).nodup_iff.mpr ?_
      rw [List.map_cons]
      exact List.nodup_cons.mpr ⟨hm, R.nd⟩
    have hes : (SetTable.insertAt es p (thash P w k, Value.ref x)).size = L.length + 1 := by
      have h := congrArg List.length hin
      unfold rowsOf at h
      rw [Array.length_toList, List.length_map, hlen] at h
      exact h
    generalize SetTable.insertAt es p (thash P w k, Value.ref x) = es1 at hin hes ⊢
    generalize L.take p ++ (x, k) :: L.drop p = L1 at pm hlen q3 nd1 hin
    refine wpAny_bind (wpAny_storeSet_of ho hd ?_ (by rw [hes, sizeLine_eq]; omega))
    have sb : Heap.SameBut a s.heap (s.heap.update a (Obj.putSet es1 t1)) := Heap.SameBut.update ..
    have ho1 := store_at (es' := es1) (t' := t1) ho hd
    generalize s.heap.update a (Obj.putSet es1 t1) = h1 at sb ho1 ⊢
    have tup1 : ∀ p ∈ L1, IsT P w h1 p.2 p.1 := fun p hp => by
      rcases List.mem_cons.mp (pm.mem_iff.mp hp) with e | hp
      · rw [e]; exact isT_same hx ho hd sb
      · exact isT_same (R.tup p hp) ho hd sb
    have ld1 : w.params.followText "set-order" = true ∨ t1.led = true := by rw [q5]; exact R.led
    by_cases hf : t1.tooFull = true
    · first
        | (refine wpAny_bind ?_; refine wp_if_pos (by simp [hf]) ?_)
        | (refine wp_if_pos (by simp [hf]) ?_; refine wpAny_bind ?_)
      have hfull : (L.length + 1) * 5 ≥ t1.mask * 3 := by
        have h := hf
        unfold SetTable.tooFull at h
        rw [decide_eq_true_eq, q9, List.length_map] at h
        exact h
      rw [hsl]
      have hsz1 : t1.place.size = es1.size := by
        have h := q3.sz
        rw [List.length_map, hlen] at h
        rw [h, hes]
      have cases2 : (t.mask = 7 ∧ L.length = 4) ∨ (t.mask = 31 ∧ L.length = 18) ∨ (t.mask = 127 ∧ L.length = 76) := by
        rcases R.tab.mok with e | e | e | e
        · left; rw [q4, e] at hfull; rw [e] at hroom; exact ⟨e, by omega⟩
        · right; left; rw [q4, e] at hfull; rw [e] at hroom; exact ⟨e, by omega⟩
        · right; right; rw [q4, e] at hfull; rw [e] at hroom; exact ⟨e, by omega⟩
        · exfalso; rw [q4, e] at hfull; omega
      have go : ∀ M, SetTable.sizeAbove (SetTable.grown (L.length + 1)) - 1 = M → MaskOk M → SetTable.sizeAbove (SetTable.grown (L.length + 1)) ≤ 512 → (L.length + 1) * 5 < M * 3 →
          wpAny (model P w) A (setRelay a (SetTable.grown (L.length + 1))) (fun _ s' => wpAny (model P w) A (pure true) Q E s') E { s with heap := h1 } := fun M h1' h2' h3' h4' => by
        refine relay_at (s := { s with heap := h1 }) ho1 ⟨hex.1, hex.2.1, hex.2.2⟩ rfl hin hsz1 q3.dm (by rw [hes, q4]; rcases cases2 with ⟨e, e2⟩ | ⟨e, e2⟩ | ⟨e, e2⟩ <;> omega) nd1 tup1 hp1 ld1 (by rw [hlen]; exact hfew) h1' h2' h3' (by rw [hlen]; exact h4') ?_
        intro h2 L2 es2 ep2 t2 sb2 R2 pm2
        refine wpAny_pure (hQ true h2 L2 es2 ep2 t2 (sb.trans sb2) R2 (fun z => absurd z hm) fun _ => pm2.trans pm)
      rcases cases2 with ⟨_, e2⟩ | ⟨_, e2⟩ | ⟨_, e2⟩
      · refine go 31 (by rw [e2, size_20]) (.inr (.inl rfl)) (by rw [e2, size_20]; decide) (by omega)
      · refine go 127 (by rw [e2, size_76]) (.inr (.inr (.inl rfl))) (by rw [e2, size_76]; decide) (by omega)
      · refine go 511 (by rw [e2, size_308]) (.inr (.inr (.inr rfl))) (by rw [e2, size_308]; decide) (by omega)
    · first
        | refine wp_if_neg (by simp [hf]) ?_
        | (refine wpAny_bind ?_; refine wp_if_neg (by simp [hf]) ?_; refine wpAny_pure ?_)
      refine wpAny_pure (hQ true h1 L1 es1 (ep + 1) t1 sb ⟨⟨_, ho1, ⟨hex.1, hex.2.1, hex.2.2⟩, rfl⟩, hin, q3, nd1, tup1, hp1, ld1, ?_, by rw [hlen]; exact hfew⟩ (fun z => absurd z hm) fun _ => pm)
      have h := hf
      unfold SetTable.tooFull at h
      rw [decide_eq_true_eq, q9, List.length_map] at h
      rw [hlen]
      omega
end
end Tz

namespace Tz
open PySem PySem.Spec PyProof.Rows L2

theorem nodup_of_map {α β : Type} {f : α → β} {l : List α} (h : (l.map f).Nodup) : l.Nodup := List.Pairwise.of_map f (fun _ _ hne e => hne (congrArg f e)) h
/-- what the set has got from the first i items -/
structure Got (ks : List (Addr × List Key)) (i : Nat) (L : List (Addr × List Key)) : Prop where
  sub : ∀ p ∈ L, p ∈ ks.take i
  all : ∀ p ∈ ks.take i, p.2 ∈ L.map (·.2)
  len : L.length ≤ i
theorem Got.zero (ks : List (Addr × List Key)) : Got ks 0 [] := ⟨fun p h => (by cases h), fun p h => (by simp at h), Nat.le_refl _⟩
theorem take_next {α : Type} {l : List α} {i : Nat} {x : α} (h : l[i]? = some x) : l.take (i + 1) = l.take i ++ [x] := by
  rw [List.take_succ, h] <;> rfl
theorem Got.same {ks L : List (Addr × List Key)} {i : Nat} {x : Addr × List Key} (g : Got ks i L) (h : ks[i]? = some x) (hm : x.2 ∈ L.map (·.2)) : Got ks (i + 1) L := by
  refine ⟨fun p hp => ?_, fun p hp => ?_, Nat.le_succ_of_le g.len⟩
  · rw [take_next h]
    exact List.mem_append_left _ (g.sub p hp)
  · rw [take_next h] at hp
    rcases List.mem_append.mp hp with z | z
    · exact g.all p z
    · rw [List.mem_singleton.mp z]; exact hm
theorem Got.more {ks L L' : List (Addr × List Key)} {i : Nat} {x : Addr × List Key} (g : Got ks i L) (h : ks[i]? = some x) (pm : L'.Perm (x :: L)) : Got ks (i + 1) L' := by
  refine ⟨fun p hp => ?_, fun p hp => ?_, ?_⟩
  · rw [take_next h]
    rcases List.mem_cons.mp (pm.mem_iff.mp hp) with e | z
    · rw [e]; exact List.mem_append_right _ (List.mem_singleton.mpr rfl)
    · exact List.mem_append_left _ (g.sub p z)
  · rw [(pm.map (·.2)).mem_iff, List.map_cons]
    rw [take_next h] at hp
    rcases List.mem_append.mp hp with z | z
    · exact List.mem_cons_of_mem _ (g.all p z)
    · rw [List.mem_singleton.mp z]; exact List.mem_cons_self
  · rw [pm.length_eq, List.length_cons]
    exact Nat.succ_le_succ g.len

section
variable {P : Program} {w : World} {A : Around} {E : Value → Shared → Prop} {s : Shared}
theorem isT_keep {h h' : Heap} {k : List Key} {b : Addr} (x : IsT P w h k b) (hk : ∀ c o, h.get? c = some o → h'.get? c = some o) : IsT P w h' k b := by
  obtain ⟨o, items, n, ho, r⟩ := x
  exact ⟨o, items, n, hk b o ho, r⟩
theorem SetTR.keep {h h' : Heap} {a : Addr} {L : List (Addr × List Key)} {es : Array (Int × Value)} {ep : Nat} {t : SetTable} (R : SetTR P w h a L es ep t) (ha : ∀ o, h.get? a = some o → h'.get? a = some o) (ht : ∀ p ∈ L, IsT P w h' p.2 p.1) : SetTR P w h' a L es ep t := by
  obtain ⟨o, ho, r⟩ := R.ob
  exact ⟨⟨o, ha o ho, r⟩, R.rows, R.tab, R.nd, ht, R.plain, R.led, R.room, R.few⟩
/-- a new set -/
theorem setTR_fresh {h : Heap} {a : Addr} (ho : h.get? a = some { cls := .type "set", dict := none, data := .set #[] 0 (.fresh 0 0 (!w.params.followText "set-order")) }) : SetTR P w h a [] #[] 0 (.fresh 0 0 (!w.params.followText "set-order")) where
  ob := ⟨_, ho, ⟨rfl, rfl, rfl⟩, rfl⟩
  rows := rfl
  tab := ⟨List.Pairwise.nil, rfl, rfl, .inl rfl, fun x hx => (by cases hx), fun i h j hi => (by simp at hi)⟩
  nd := List.nodup_nil
  tup := fun p hp => (by cases hp)
  plain := trivial
  led := by
    show _ ∨ (!w.params.followText "set-order") = true
    cases w.params.followText "set-order"
    · exact .inr rfl
    · exact .inl rfl
  room := by
    show 0 * 5 < 7 * 3
    decide
  few := by
    show 0 < 300
    decide

/-- set.update's loop -/
theorem set_update_tups {I : Addr} {fp wr : List Addr} {G : Array GenState → Array GenState → Prop} {n : Nat} {Pv : Nat → Value → Prop} {St : Nat → Shared → Prop} {R : Result → Shared → Prop}
    (W : WalksS P w A.in1 I fp wr G n Pv St) (S : Addr) (hSf : S ∉ fp) (ks : List (Addr × List Key)) (hn : n = ks.length) (hfew : ∀ D : List (List Key), D.Nodup → (∀ k ∈ D, k ∈ ks.map (·.2)) → D.length ≤ 299) (hval : ∀ i v, Pv i v → ∃ p, ks[i]? = some p ∧ v = .ref p.1)
    (h0 : Heap) (hk : ∀ p ∈ ks, IsT P w h0 p.2 p.1) (hS0 : h0.get? S = none) (hw0 : ∀ b ∈ wr, h0.get? b = none) (hu : A.in1.units < cLine) :
    ∀ (k i : Nat) (s : Shared), n - i = k → i ≤ n → St i s → (∀ b o, h0.get? b = some o → s.heap.get? b = some o) → (∃ L es ep t, SetTR P w s.heap S L es ep t ∧ Got ks i L) →
      (∀ s' L es ep t, Moved (S :: wr) G s s' → SetTR P w s'.heap S L es ep t → Got ks n L → (∀ b o, h0.get? b = some o → s'.heap.get? b = some o) → R (.ok (.ret .none)) s') →
      codeAny (model P w) A (.builtin "set.update.loop" ⟨[.ref S, .ref I], []⟩) R s := by
  have hSw : S ∉ wr := fun h => hSf (W.sub _ h)
  have hsub : ∀ b ∈ wr, b ∈ S :: wr := fun b hb => List.mem_cons_of_mem _ hb
  have keepM : ∀ {s s' : Shared}, Moved wr G s s' → (∀ b o, h0.get? b = some o → s.heap.get? b = some o) → ∀ b o, h0.get? b = some o → s'.heap.get? b = some o := fun hm hkp b o e =>
    hm.heap b o (fun hb => by rw [hw0 b hb] at e; cases e) (hkp b o e)
  intro k
  induction k with
  | zero =>
    intro i s hk' hi hst hkp ⟨L, es, ep, t, hS, g⟩ hR
    have hin : i = n := by omega
    subst hin
    refine codeAny_builtin F.entry_set_update_loop ?_
    rw [Around.under_plainId F.plain_set_update_loop _]
    show wpAny _ A.in1 (pyNext (.ref I) >>= _) _ _ s
    refine wpAny_bind (W.done s _ _ hst fun s' hm => ?_)
    show wpAny _ A.in1 (ret Value.none) _ _ s'
    have hkp' := keepM hm hkp
    have sub : ∀ p ∈ L, p ∈ ks := fun p hp => List.mem_of_mem_take (g.sub p hp)
    exact wpAny_pure (hR s' L es ep t (hm.mono hsub) (hS.keep (fun o e => hm.heap S o hSw e) fun p hp => isT_keep (hk p (sub p hp)) hkp') g hkp')
  | succ k ih =>
    intro i s hk' hi hst hkp ⟨L, es, ep, t, hS, g⟩ hR
    have hlt : i < n := by omega
    refine codeAny_builtin F.entry_set_update_loop ?_
    rw [Around.under_plainId F.plain_set_update_loop _]
    show wpAny _ A.in1 (pyNext (.ref I) >>= _) _ _ s
    refine wpAny_bind (W.item i s _ _ hlt hst fun v s' hP hst' hm => ?_)
    obtain ⟨p, hp, rfl⟩ := hval i v hP
    have hkp' := keepM hm hkp
    have sub : ∀ p ∈ L, p ∈ ks := fun p hp => List.mem_of_mem_take (g.sub p hp)
    have hS' : SetTR P w s'.heap S L es ep t := hS.keep (fun o e => hm.heap S o hSw e) fun q hq => isT_keep (hk q (sub q hq)) hkp'
    have hx : IsT P w s'.heap p.2 p.1 := isT_keep (hk p (List.mem_of_getElem? hp)) hkp'
    show wpAny _ A.in1 (holding [Value.ref p.1] (setAdd S (.ref p.1)) >>= _) _ _ s'
    refine wpAny_bind (wpAny_holding ?_)
    unfold setAdd
    refine wpAny_holding ?_
    refine wpAny_bind (wpAny_pyHash_tuple hu hx ?_)
    refine add_at (s := { s' with toks := s'.toks + (p.2.length + 1) }) hS' hx hu (fun c => by
      have := hfew (p.2 :: L.map (·.2)) (List.nodup_cons.mpr ⟨c, hS'.nd⟩) (fun k hk => by
        rcases List.mem_cons.mp hk with e | hk
        · rw [e]; exact List.mem_map.mpr ⟨p, List.mem_of_getElem? hp, rfl⟩
        · obtain ⟨q, hq, e⟩ := List.mem_map.mp hk
          exact List.mem_map.mpr ⟨q, sub q hq, e⟩)
      rw [List.length_cons, List.length_map] at this
      omega) fun b h' L' es' ep' t' hsb hS2 c1 c2 => ?_
    have g' : Got ks (i + 1) L' := by
      rcases Classical.em (p.2 ∈ L.map (·.2)) with c | c
      · rw [c1 c]; exact g.same hp c
      · exact g.more hp (c2 c)
    have hkp2 : ∀ b o, h0.get? b = some o → h'.get? b = some o := fun b o e => (hsb.2 b (fun z => by rw [z, hS0] at e; cases e)).trans (hkp' b o e)
    refine wpAny_pure ⟨plainId_quiet F.plain_set_update_loop _, ih (i + 1) _ (by omega) hlt (W.frame _ s' _ _ hst' (Nat.le_add_right _ _) fun b hb o e => ?_) hkp2 ⟨L', es', ep', t', hS2, g'⟩ fun s'' L2 es2 ep2 t2 hm'' hS'' g'' hkp'' => ?_⟩
    · rw [hsb.2 b (fun h : b = S => hSf (by rw [← h]; exact hb))]; exact e
    · refine hR s'' L2 es2 ep2 t2 (Moved.trans W.gtrans ((hm.mono hsub).then_heap (Nat.le_add_right _ _) fun b o hb e => ?_) hm'') hS'' g'' hkp''
      rw [hsb.2 b (fun h : b = S => hb (by rw [h]; exact List.mem_cons_self))]; exact e

set_option maxRecDepth 100000 in
set_option maxHeartbeats 3200000 in
/-- set(xs) -/
theorem call_set_tups {l : Addr} {items : Array Value} (ks : List (Addr × List Key)) {Q : Value → Shared → Prop} (hh : A.handled = none) (hl : s.heap.IsList l items) (hit : items.toList = ks.map fun p => Value.ref p.1)
    (hk : ∀ p ∈ ks, IsT P w s.heap p.2 p.1) (hfew : ∀ D : List (List Key), D.Nodup → (∀ k ∈ D, k ∈ ks.map (·.2)) → D.length ≤ 299) (hu : A.units + 3 < cLine)
    (h : ∀ (h' : Heap) (tk : Nat) L es ep t, SetTR P w h' s.heap.objs.size L es ep t → Got ks ks.length L → (∀ b o, s.heap.get? b = some o → h'.get? b = some o) → Q (.ref s.heap.objs.size) { s with heap := h', toks := tk }) :
    wpAny (model P w) A (call (.type "set") [.ref l]) Q E s := by
  have hisz : items.size = ks.length := by
    have q := congrArg List.length hit
    rw [Array.length_toList, List.length_map] at q
    exact q
  obtain ⟨c, tl, hmro⟩ := F.called_set.mro
  have hmade := F.called_set.made
  have hsub := F.called_set.sub
  refine wpAny_call (codeAny_of_tree ?_)
  show wpAny _ _ (callAny (.type "set") _) _ _ _
  refine wpAny_pure ⟨Code.quiet_builtin _ (by decide +kernel), codeAny_builtin F.entry_type_call ?_⟩
  rw [Around.under_plain (weight_type_call_type "set" [.ref l] []) rfl]
  have h1 := F.called_set.notType
  have h2 := F.called_set.canCreate
  have hct := F.typeCall_set_1 (.ref l)
  repeat (any_goals (first | assumption | wp_step))

  refine codeAny_mono (code_set_led1 (.ref l) (E := E) (Q₁ := fun obj s₁ => obj = .ref s.heap.objs.size ∧ s₁ = { s with heap := s.heap.push { cls := .type "set", dict := none, data := .set #[] 0 (.fresh 0 0 (!w.params.followText "set-order")) } }) ⟨rfl, rfl⟩) fun r s₁ hr => ?_
  cases r with
  | error e => exact hr
  | ok fl =>
    cases fl with
    | ret obj =>
      obtain ⟨rfl, rfl⟩ := hr
      have hS : (s.heap.push { cls := .type "set", dict := none, data := .set #[] 0 (.fresh 0 0 (!w.params.followText "set-order")) }).get? s.heap.objs.size = some { cls := .type "set", dict := none, data := .set #[] 0 (.fresh 0 0 (!w.params.followText "set-order")) } := Heap.get?_push_size _ rfl
      have hT : Shared.TypeIs { s with heap := s.heap.push { cls := .type "set", dict := none, data := .set #[] 0 (.fresh 0 0 (!w.params.followText "set-order")) } } (.ref s.heap.objs.size) "set" := ⟨_, hS, rfl⟩
      have hli := F.called_set.init.lookup
      have hbi := F.called_set.init.bind (.ref s.heap.objs.size)
      repeat (any_goals (first | assumption | wp_step))

      refine codeAny_mono (codeAny_call_builtin (R := wants (fun r s₂ => r = .none ∧ ∃ h' tk L es ep t, s₂ = { s with heap := h', toks := tk } ∧ SetTR P w h' s.heap.objs.size L es ep t ∧ Got ks ks.length L ∧
          (∀ b o, s.heap.get? b = some o → h'.get? b = some o)) E) F.called_set.init.plain F.entry_set_init (check_set_init_1 hT ?_)) fun r₂ s₂ hr₂ => ?_
      · obtain ⟨ol, hol, hcl, nl, hdl⟩ := hl
        obtain ⟨ocls, odict, odata, oslots⟩ := ol
        simp only at hcl hdl
        subst hcl; subst hdl
        have hol' : (s.heap.push { cls := .type "set", dict := none, data := .set #[] 0 (.fresh 0 0 (!w.params.followText "set-order")) }).get? l = some { cls := .type "list", dict := odict, data := .seq items nl, slots := oslots } := Heap.get?_push_of_some _ hol
        have hsls := F.sub_list_set
        have hslf := F.sub_list_frozenset
        have hne : (Value.type "list" == Value.type "dict") = false := by decide
        have hl1 : (s.heap.push { cls := .type "set", dict := none, data := .set #[] 0 (.fresh 0 0 (!w.params.followText "set-order")) }).IsList l items := ⟨_, hol', rfl, nl, rfl⟩
        unfold Builtin.«set.__init__» noKeywords Builtin.Frozenset.updateFrom
        generalize hPI : pyIter = PI
        wp_walk
        subst hPI

        refine wpAny_pyIter_list hl1 ?_
        refine wpAny_bind (wpAny_runValue ?_)
        have hlS : l < s.heap.objs.size := Heap.lt_size hol
        have hh3 : A.in1.in1.in1.handled = none := by simp [hh]
        have hz1 : (s.heap.push { cls := .type "set", dict := none, data := .set #[] 0 (.fresh 0 0 (!w.params.followText "set-order")) }).objs.size = s.heap.objs.size + 1 := Heap.size_push ..
        have hneI : l ≠ (s.heap.push { cls := .type "set", dict := none, data := .set #[] 0 (.fresh 0 0 (!w.params.followText "set-order")) }).objs.size := by
          rw [Heap.size_push]; exact Nat.ne_of_lt (Nat.lt_succ_of_lt hlS)
        have hSf : s.heap.objs.size ∉ [(s.heap.push { cls := .type "set", dict := none, data := .set #[] 0 (.fresh 0 0 (!w.params.followText "set-order")) }).objs.size, l] := by
          rw [Heap.size_push]; simp only [List.mem_cons, List.mem_singleton, List.not_mem_nil, or_false, not_or]
          exact ⟨Nat.ne_of_lt (Nat.lt_succ_self _), Nat.ne_of_gt hlS⟩
        have hval : ∀ (i : Nat) (v : Value), items[i]? = some v → ∃ p, ks[i]? = some p ∧ v = .ref p.1 := fun i v hv => by
          have q : items.toList[i]? = some v := by rw [Array.getElem?_toList]; exact hv
          rw [hit, List.getElem?_map] at q
          cases hq : ks[i]? with
          | none => rw [hq] at q; cases q
          | some p =>
            rw [hq] at q
            exact ⟨p, rfl, (Option.some.inj q).symm⟩
        have none_of : ∀ b, s.heap.objs.size ≤ b → s.heap.get? b = none := fun b hb => by
          cases q : s.heap.get? b with
          | none => rfl
          | some o => exact absurd (Nat.lt_of_lt_of_le (Heap.lt_size q) hb) (Nat.lt_irrefl _)
        refine set_update_tups ((Walks.list hh3 _ l hneI items).toS) s.heap.objs.size
          hSf ks hisz hfew hval s.heap hk (none_of _ (Nat.le_refl _)) (fun b hb => none_of b (by
            rw [List.mem_singleton.mp hb, Heap.size_push]
            exact Nat.le_succ _)) hu (items.size - 0) 0 _ (by omega) (Nat.zero_le _)
          ⟨⟨_, Heap.get?_push_size _ rfl, rfl, rfl⟩, (hl1.push _)⟩ (fun b o e => Heap.get?_push_of_some _ (Heap.get?_push_of_some _ e)) ?hS0 ?hR
        case hS0 =>
          have hget : ((s.heap.push { cls := .type "set", dict := none, data := .set #[] 0 (.fresh 0 0 (!w.params.followText "set-order")) }).push { cls := .type "list_iterator", data := .fields #[.ref l, .int 0 0] }).get? s.heap.objs.size
              = some { cls := .type "set", dict := none, data := .set #[] 0 (.fresh 0 0 (!w.params.followText "set-order")) } := Heap.get?_push_of_some _ hS
          exact ⟨[], #[], 0, _, setTR_fresh hget, Got.zero ks⟩
        case hR =>
          intro s' L es ep t hm hS' g' hkp
          obtain ⟨h', g2, d', tk', os'⟩ := s'
          have eg : g2 = s.gens := hm.gens
          have ed : d' = s.drawn := hm.drawn
          have eo : os' = s.os := hm.os
          subst eg; subst ed; subst eo
          show wpAny _ _ _ _ _ _
          refine wpAny_pure ?_
          show wpAny _ _ (ret Value.none) _ _ _
          rw [hisz] at g'
          exact wpAny_pure ⟨rfl, h', tk', L, es, ep, t, rfl, hS', g', hkp⟩

      · cases r₂ with
        | error e => exact hr₂
        | ok fl₂ =>
          cases fl₂ with
          | ret r =>
            obtain ⟨rfl, h', tk, L, es, ep, t, rfl, hS', g', hk'⟩ := hr₂
            repeat (any_goals (first | assumption | wp_step))
            exact h _ _ _ _ _ _ hS' g' hk'
          | _ => exact hr₂.elim
    | _ => exact hr.elim
end
end Tz
namespace Tz
open PySem PySem.Spec PyProof.Rows L2
/-- the set at a, without the tuples themselves -/
structure SetT0 (P : Program) (w : World) (h : Heap) (a : Addr) (L : List (Addr × List Key)) : Prop where
  ex : ∃ (es : Array (Int × Value)) (ep : Nat) (t : SetTable), (∃ o, h.get? a = some o ∧ o.ExactSet ∧ o.data = .set es ep t) ∧ es.toList = rowsOf P w L ∧ TabOk t (L.map fun p => thash P w p.2) ∧ (L.map (·.2)).Nodup ∧ True ∧
    (w.params.followText "set-order" = true ∨ t.led = true) ∧ L.length * 5 < t.mask * 3 ∧ L.length < 300
def SetTO (P : Program) (w : World) (a : Addr) (L : List (Addr × List Key)) : HO := .ext fun h => SetT0 P w h a L
theorem SetTR.t0 {P : Program} {w : World} {h : Heap} {a : Addr} {L : List (Addr × List Key)} {es : Array (Int × Value)} {ep : Nat} {t : SetTable} (R : SetTR P w h a L es ep t) : SetT0 P w h a L :=
  ⟨es, ep, t, R.ob, R.rows, R.tab, R.nd, R.plain, R.led, R.room, R.few⟩
theorem SetT0.full {P : Program} {w : World} {h : Heap} {a : Addr} {L : List (Addr × List Key)} (R : SetT0 P w h a L) (ht : ∀ p ∈ L, IsT P w h p.2 p.1) : ∃ es ep t, SetTR P w h a L es ep t := by
  obtain ⟨es, ep, t, h1, h2, h3, h4, h5, h6, h7, h8⟩ := R.ex
  exact ⟨es, ep, t, h1, h2, h3, h4, ht, h5, h6, h7, h8⟩
theorem setTO_new {P : Program} {w : World} {H : Hp} {h : Heap} {a : Addr} {L : List (Addr × List Key)} (R : SetT0 P w h a L) : ObjOk P w H h a (SetTO P w a L) := by
  have ⟨es, ep, t, ⟨o, ho, r⟩, q⟩ := R.ex
  refine ⟨R, ⟨o, ho⟩, fun h1 h2 p k => ?_⟩
  have ⟨es', ep', t', ⟨o', ho', r'⟩, q'⟩ := SetT0.ex p
  exact ⟨es', ep', t', ⟨o', k o' ho', r'⟩, q'⟩
theorem refs_of_vals : ∀ {ks : List (Addr × List Key)} {us : List Value}, Vals (ks.map fun p => V.ref p.1) us → us = ks.map fun p => Value.ref p.1
  | [], _, .nil => rfl
  | p :: ks, _, .cons r t => by
    cases r
    rw [refs_of_vals t] <;> rfl
theorem vals_of_refs : ∀ (ks : List (Addr × List Key)), Vals (ks.map fun p => V.ref p.1) (ks.map fun p => Value.ref p.1)
  | [] => .nil
  | p :: ks => .cons rfl (vals_of_refs ks)

end Tz

set_option Elab.async false
set_option linter.all false
set_option maxRecDepth 100000
set_option maxHeartbeats 4000000
/-! Dn47: sorted(set(xs)) and len(set(xs)), xs tuples of ints and texts -/
namespace Dn
open PySem PySem.Spec PyProof.Rows L2 TL
def Ty.kt : Ty → Bool
  | .p2 a b => a.k1 && b.k1
  | .p3 a b c => a.k1 && b.k1 && c.k1
  | _ => false
/-- a strict order -/
structure So {α : Type} (lt : α → α → Bool) : Prop where
  irr : ∀ x, lt x x = false
  tri : ∀ x y, lt x y = true ∨ x = y ∨ lt y x = true
  tr : ∀ x y z, lt x y = true → lt y z = true → lt x z = true
def lexB {α β : Type} (lt1 : α → α → Bool) (lt2 : β → β → Bool) (eq1 : α → α → Bool) (x y : α × β) : Bool := if eq1 x.1 y.1 = true then lt2 x.2 y.2 else lt1 x.1 y.1
theorem So.lex {α β : Type} {lt1 eq1 : α → α → Bool} {lt2 : β → β → Bool} (h1 : So lt1) (h2 : So lt2) (he : ∀ x y, eq1 x y = true ↔ x = y) : So (lexB lt1 lt2 eq1) where
  irr x := by unfold lexB; rw [if_pos ((he _ _).mpr rfl)]; exact h2.irr _
  tri x y := by
    unfold lexB
    by_cases c : x.1 = y.1
    · rw [if_pos ((he _ _).mpr c), if_pos ((he _ _).mpr c.symm)]
      rcases h2.tri x.2 y.2 with h | h | h
      · exact .inl h
      · exact .inr (.inl (Prod.ext c h))
      · exact .inr (.inr h)
    · rw [if_neg fun e => c ((he _ _).mp e), if_neg fun e => c ((he _ _).mp e).symm]
      rcases h1.tri x.1 y.1 with h | h | h
      · exact .inl h
      · exact absurd h c
      · exact .inr (.inr h)
  tr x y z h k := by
    unfold lexB at *
    by_cases c : x.1 = y.1
    · rw [if_pos ((he _ _).mpr c)] at h
      by_cases d : y.1 = z.1
      · rw [if_pos ((he _ _).mpr d)] at k
        rw [if_pos ((he _ _).mpr (c.trans d))]
        exact h2.tr _ _ _ h k
      · rw [if_neg fun e => d ((he _ _).mp e)] at k
        rw [if_neg fun e => d (c.symm.trans ((he _ _).mp e)), c]
        exact k
    · rw [if_neg fun e => c ((he _ _).mp e)] at h
      by_cases d : y.1 = z.1
      · rw [if_pos ((he _ _).mpr d)] at k
        rw [if_neg fun e => c (((he _ _).mp e).trans d.symm), ← d]
        exact h
      · rw [if_neg fun e => d ((he _ _).mp e)] at k
        have t := h1.tr _ _ _ h k
        rw [if_neg fun e => ?_]
        · exact t
        · have e := (he _ _).mp e
          rw [e] at h
          have t2 := h1.tr _ _ _ h k
          rw [h1.irr] at t2
          cases t2
theorem so_k1 : ∀ {A : Ty}, A.k1 = true → So (ltT A)
  | .int, _ => ⟨fun x => decide_eq_false (Int.lt_irrefl x), fun x y => by
      rcases Int.lt_trichotomy x y with h | h | h
      · exact .inl (decide_eq_true h)
      · exact .inr (.inl h)
      · exact .inr (.inr (decide_eq_true h)), fun x y z h k => decide_eq_true (Int.lt_trans (of_decide_eq_true h) (of_decide_eq_true k))⟩
  | .str, _ => ⟨fun x => decide_eq_false (List.lt_irrefl x), fun x y => by
      by_cases h : x = y
      · exact .inr (.inl h)
      · by_cases k : x < y
        · exact .inl (decide_eq_true k)
        · exact .inr (.inr (decide_eq_true (Classical.byContradiction fun c => h (List.le_antisymm (List.not_lt.mp c) (List.not_lt.mp k))))), fun x y z h k => decide_eq_true (List.lt_trans (of_decide_eq_true h) (of_decide_eq_true k))⟩
theorem eqv_k1 : ∀ {A : Ty}, A.k1 = true → ∀ x y : A.den, PyData.eqv (toPy A x) (toPy A y) = true ↔ x = y
  | .int, _, x, y => by simp [toPy, PyData.eqv]
  | .str, _, x, y => by
    simp only [toPy, PyData.eqv, beq_iff_eq]
    constructor
    · intro h
      injection h with h
      exact List.toArray_inj h
    · rintro rfl; rfl
theorem so_kt : ∀ {T : Ty}, T.kt = true → So (ltT T)
  | .p2 a b, h => by
    have h : (a.k1 && b.k1) = true := h
    simp only [Bool.and_eq_true] at h
    have e : ltT (.p2 a b) = lexB (ltT a) (ltT b) (fun x y => PyData.eqv (toPy a x) (toPy a y)) := by
      funext x y; simp only [ltT]; rfl
    rw [e]
    exact So.lex (so_k1 h.1) (so_k1 h.2) (eqv_k1 h.1)
  | .p3 a b c, h => by
    have h : (a.k1 && b.k1 && c.k1) = true := h
    simp only [Bool.and_eq_true] at h
    have e : ltT (.p3 a b c) = lexB (ltT a) (lexB (ltT b) (ltT c) (fun x y => PyData.eqv (toPy b x) (toPy b y))) (fun x y => PyData.eqv (toPy a x) (toPy a y)) := by
      funext x y; simp only [ltT]; rfl
    rw [e]
    exact So.lex (so_k1 h.1.1) (So.lex (so_k1 h.1.2) (so_k1 h.2) (eqv_k1 h.1.2)) (eqv_k1 h.1.1)
theorem So.asym {α : Type} {lt : α → α → Bool} (h : So lt) {x y : α} (k : lt x y = true) : lt y x = false := by
  cases c : lt y x with
  | false => rfl
  | true => have := h.tr _ _ _ k c; rw [h.irr] at this; cases this
section
variable {T : Ty} (h : So (ltT T))
include h
theorem le_tr (x y z : T.den) (h1 : leT T x y = true) (h2 : leT T y z = true) : leT T x z = true := by
  unfold leT at *
  rw [Bool.not_eq_true'] at *
  cases c : ltT T z x with
  | false => rfl
  | true =>
    rcases h.tri x y with k | k | k
    · rw [h.tr _ _ _ c k] at h2; cases h2
    · rw [k] at c; rw [c] at h2; cases h2
    · rw [k] at h1; cases h1
theorem le_tot (x y : T.den) : (leT T x y || leT T y x) = true := by
  unfold leT
  cases c : ltT T y x with
  | false => rfl
  | true => rw [h.asym c]; rfl
theorem le_anti (x y : T.den) (h1 : leT T x y = true) (h2 : leT T y x = true) : x = y := by
  unfold leT at *
  rw [Bool.not_eq_true'] at *
  rcases h.tri x y with k | k | k
  · rw [k] at h2; cases h2
  · exact k
  · rw [k] at h1; cases h1
theorem sortK_perm {l m : List T.den} (p : l.Perm m) : sortT T l = sortT T m :=
  PySem.W.Srt.the_of_perm (leT T) (le_tr h) (le_tot h) (le_anti h) ((List.mergeSort_perm l _).trans p) (List.pairwise_mergeSort (le_tr h) (le_tot h) l)
theorem sortK_id {l : List T.den} (p : l.Pairwise fun x y => leT T x y = true) : sortT T l = l :=
  (PySem.W.Srt.the_of_perm (leT T) (le_tr h) (le_tot h) (le_anti h) (List.Perm.refl l) p).symm
theorem sortK_pw (l : List T.den) : (sortT T l).Pairwise fun x y => leT T x y = true := List.pairwise_mergeSort (le_tr h) (le_tot h) l
end
/-- the members, each once -/
def nubD {α : Type} [DecidableEq α] : List α → List α
  | [] => []
  | x :: l => if x ∈ nubD l then nubD l else x :: nubD l
section
variable {α : Type} [DecidableEq α]
theorem mem_nubD {x : α} : ∀ {l : List α}, x ∈ nubD l ↔ x ∈ l
  | [] => Iff.rfl
  | y :: l => by
    unfold nubD
    split
    · rename_i h
      rw [mem_nubD, List.mem_cons]
      exact ⟨.inr, fun q => q.elim (fun e => by rw [e]; exact mem_nubD.mp h) id⟩
    · rw [List.mem_cons, List.mem_cons, mem_nubD]
theorem nubD_nodup : ∀ l : List α, (nubD l).Nodup
  | [] => .nil
  | y :: l => by
    unfold nubD
    split
    · exact nubD_nodup l
    · rename_i h
      exact List.nodup_cons.mpr ⟨h, nubD_nodup l⟩
theorem nubD_len : ∀ l : List α, (nubD l).length ≤ l.length
  | [] => Nat.le_refl _
  | y :: l => by
    unfold nubD
    have := nubD_len l
    split
    · rw [List.length_cons]; omega
    · rw [List.length_cons, List.length_cons]; omega
theorem nodup_le : ∀ {l m : List α}, l.Nodup → (∀ x ∈ l, x ∈ m) → l.length ≤ m.length
  | [], _, _, _ => Nat.zero_le _
  | x :: l, m, nd, h => by
    obtain ⟨n1, n2⟩ := List.nodup_cons.mp nd
    have hx := h x (List.mem_cons_self ..)
    have := nodup_le (m := m.erase x) n2 fun y hy => (List.mem_erase_of_ne (fun e => n1 (by rw [← e]; exact hy))).mpr (h y (List.mem_cons_of_mem _ hy))
    rw [List.length_erase_of_mem hx] at this
    have := List.length_pos_of_mem hx
    rw [List.length_cons]; omega
end
/-- sorted(set(xs)) -/
def ssetK (T : Ty) [DecidableEq T.den] (xs : List T.den) : List T.den := sortT T (nubD xs)
theorem kt_parts : ∀ {T : Ty}, T.kt = true → T.canLt = true ∧ T.canSort = true ∧ T.dep ≤ 2
  | .p2 .int .int, _ => by decide
  | .p2 .int .str, _ => by decide
  | .p2 .str .int, _ => by decide
  | .p2 .str .str, _ => by decide
  | .p3 .int .int .int, _ => by decide
  | .p3 .int .int .str, _ => by decide
  | .p3 .int .str .int, _ => by decide
  | .p3 .int .str .str, _ => by decide
  | .p3 .str .int .int, _ => by decide
  | .p3 .str .int .str, _ => by decide
  | .p3 .str .str .int, _ => by decide
  | .p3 .str .str .str, _ => by decide
theorem keyK_inj : ∀ {T : Ty}, T.kt = true → ∀ {x y : T.den}, keyL T x = keyL T y → x = y
  | .p2 a b, h, x, y, e => by
    have h : (a.k1 && b.k1) = true := h
    simp only [Bool.and_eq_true] at h
    exact keyL_inj h.1 h.2 e
  | .p3 a b c, h, x, y, e => by
    have h : (a.k1 && b.k1 && c.k1) = true := h
    simp only [Bool.and_eq_true] at h
    have e : [key1 a x.1, key1 b x.2.1, key1 c x.2.2] = [key1 a y.1, key1 b y.2.1, key1 c y.2.2] := e
    simp only [List.cons.injEq, and_true] at e
    exact Prod.ext (key1_inj h.1.1 e.1) (Prod.ext (key1_inj h.1.2 e.2.1) (key1_inj h.2 e.2.2))
theorem rep_kt {K : PySem.W.Frag} {G : Hp} : ∀ {T : Ty}, T.kt = true → ∀ {v : V} {x : T.den}, Rep K T G v x ↔ ∃ p, v = .ref p ∧ G p = some (.tup ((keyL T x).map kV))
  | .p2 a b, h, v, x => by
    have h : (a.k1 && b.k1) = true := h
    simp only [Bool.and_eq_true] at h
    constructor
    · exact rep_key h.1 h.2
    · rintro ⟨p, rfl, e⟩
      exact ⟨p, _, _, rfl, e, (rep_k1 h.1).mpr rfl, (rep_k1 h.2).mpr rfl⟩
  | .p3 a b c, h, v, x => by
    have h : (a.k1 && b.k1 && c.k1) = true := h
    simp only [Bool.and_eq_true] at h
    constructor
    · rintro ⟨p, v1, v2, v3, rfl, h1, h2, h3, h4⟩
      have e1 := (rep_k1 h.1.1).mp h2
      have e2 := (rep_k1 h.1.2).mp h3
      have e3 := (rep_k1 h.2).mp h4
      subst e1; subst e2; subst e3
      exact ⟨p, rfl, h1⟩
    · rintro ⟨p, rfl, e⟩
      exact ⟨p, _, _, _, rfl, e, (rep_k1 h.1.1).mpr rfl, (rep_k1 h.1.2).mpr rfl, (rep_k1 h.2).mpr rfl⟩
section
variable {X : Cx}
open PySem.W in
theorem keyK_reads {pins : List (Addr × Obj)} {σ : L2.St} {H : Hp} {s : Shared} (I : Inv X pins σ H s) : ∀ {T : Ty}, T.kt = true → ∀ {q : Addr} {y : T.den}, H q = some (.tup ((keyL T y).map kV)) → ∀ {h' : Heap}, (∀ b o, s.heap.get? b = some o → h'.get? b = some o) → Reads h' (.ref q) (toPy T y) []
  | .p2 a b, hk, q, y, h, h', k => by
    have hk : (a.k1 && b.k1) = true := hk
    simp only [Bool.and_eq_true] at hk
    exact key_reads I hk.1 hk.2 h k
  | .p3 a b c, hkt, q, y, h, h', hk => by
    have hkt : (a.k1 && b.k1 && c.k1) = true := hkt
    simp only [Bool.and_eq_true] at hkt
    obtain ⟨its, rv, ⟨o, ho, hc, n, hd⟩, hz⟩ := I.tuple (tT h)
    have one : ∀ {C : Ty} {z : C.den} {u : Value}, C.k1 = true → RelV (kV (key1 C z)) u → Reads h' u (toPy C z) [] := fun {C z u} hC r => by
      cases C with
      | int => obtain ⟨t, rfl⟩ := r; exact .int _ _
      | str => obtain ⟨t, rfl⟩ := r; exact .str _ _
      | _ => cases hC
    cases rv with
    | cons r1 rv =>
      cases rv with
      | cons r2 rv =>
        cases rv with
        | cons r3 rv =>
          cases rv
          exact .tuple (as := [] ++ ([] ++ ([] ++ []))) (hk _ _ ho) hc hd (.cons (one hkt.1.1 r1) (.cons (one hkt.1.2 r2) (.cons (one hkt.2 r3) .nil)))
end
theorem perm_unmap {α β : Type} {f : α → β} : ∀ {l m : List β}, l.Perm m → ∀ {ys : List α}, m = ys.map f → ∃ bs : List α, l = bs.map f ∧ bs.Perm ys := by
  intro l m p
  induction p with
  | nil =>
    intro ys e
    cases ys with
    | nil => exact ⟨[], rfl, .nil⟩
    | cons y ys => cases e
  | cons x _ ih =>
    intro ys e
    cases ys with
    | nil => cases e
    | cons y ys =>
      rw [List.map_cons] at e
      injection e with e1 e2
      obtain ⟨bs, e3, p⟩ := ih e2
      exact ⟨y :: bs, by rw [List.map_cons, e1, e3], p.cons y⟩
  | swap x z l =>
    intro ys e
    cases ys with
    | nil => cases e
    | cons y ys =>
      cases ys with
      | nil => cases e
      | cons y2 ys =>
        simp only [List.map_cons, List.cons.injEq] at e
        exact ⟨y2 :: y :: ys, by rw [List.map_cons, List.map_cons, e.1, e.2.1, e.2.2], .swap _ _ _⟩
  | trans _ _ ih1 ih2 =>
    intro ys e
    obtain ⟨b1, e1, p1⟩ := ih2 e
    obtain ⟨b2, e2, p2⟩ := ih1 e1
    exact ⟨b2, e2, p2.trans p1⟩
end Dn
namespace Tz
open PySem PySem.Spec PyProof.Rows L2
section
variable {P : Program} {w : World} {A : Around} {E : Value → Shared → Prop} {s : Shared}
open PySem.W Dn in
theorem each_of_map {T : Ty} {L : List (Addr × List Key)} : ∀ {L1 : List (Addr × List Key)} {bs : List T.den}, L1.map (·.2) = bs.map (keyL T) → (∀ p ∈ L1, p ∈ L) → EachIs (fun v y => ∃ q, v = Value.ref q ∧ (q, keyL T y) ∈ L) (L1.map fun p => Value.ref p.1) bs
  | [], [], _, _ => .nil
  | [], b :: bs, e, _ => by cases e
  | p :: L1, [], e, _ => by cases e
  | p :: L1, b :: bs, e, h => by
    simp only [List.map_cons, List.cons.injEq] at e
    exact .cons ⟨p.1, rfl, by rw [← e.1]; exact h p (List.mem_cons_self ..)⟩ (each_of_map e.2 fun q hq => h q (List.mem_cons_of_mem _ hq))
open PySem.W Dn in
theorem sorted_setZ {T : Ty} {ys : List T.den} {a : Addr} {L : List (Addr × List Key)} {es : Array (Int × Value)} {ep : Nat} {t : SetTable} {Q : Value → Shared → Prop} (hkt : T.kt = true) (R : SetTR P w s.heap a L es ep t) (hh : A.handled = none) (hu : A.units + 8 < cLine)
    (hL : L.map (·.2) = ys.map (keyL T)) (hrd : ∀ p ∈ L, ∀ y, p.2 = keyL T y → ∀ h' : Heap, (∀ b o, s.heap.get? b = some o → h'.get? b = some o) → Reads h' (.ref p.1) (toPy T y) [])
    (hQ : ∀ (s' : Shared) (p : Addr) (out : List Value) (c : Nat), (∀ b o, s.heap.get? b = some o → s'.heap.get? b = some o) → s'.gens = s.gens → s'.os = s.os → s.heap.objs.size ≤ p →
      s'.heap.get? p = some (seqObj "list" out.toArray c) → EachIs (fun v y => ∃ q, v = Value.ref q ∧ (q, keyL T y) ∈ L) out (Dn.sortT T ys) → Q (.ref p) s') :
    wpAny (model P w) A (call (.builtin "sorted") [.ref a]) Q E s := by
  obtain ⟨o, ho, hex, hd⟩ := R.ob
  have hsz := R.size
  have hfew := R.few
  obtain ⟨hlt, hso, hdp⟩ := kt_parts hkt
  refine Calls.call_function_entry kind_sorted plain_sorted entry_sorted (args_sorted1 _) ?_
  unfold Builtin.«sorted»
  refine wpAny_bind (m := checkCount "sorted" 1 1 _) (wpAny_pure ?_)
  refine wpAny_bind (collect_set (A := A.in1) hh ⟨o, ho, hex.1, hd⟩ R.fits (by unfold scanBound; omega) R.tab.ris R.led fun s1 vs k1 hz g1 o1 pm => ?_)
  have hes : es.toList.map (·.2) = L.map fun q => Value.ref q.1 := by
    rw [R.rows]
    unfold rowsOf
    rw [List.map_map] <;> rfl
  rw [hes] at pm
  obtain ⟨L1, e1, pL⟩ := perm_unmap pm rfl
  obtain ⟨bs, e2, pb⟩ := perm_unmap (pL.map (·.2)) hL
  have hE := each_of_map (T := T) (L := L) (L1 := L1) (bs := bs) e2 fun p hp => pL.mem_iff.mp hp
  rw [← e1] at hE
  have hbl : bs.length < 300 := by
    have := congrArg List.length hL
    rw [List.length_map, List.length_map] at this
    rw [pb.length_eq, ← this]; exact hfew
  have hvl : vs.length < 300 := by rw [pm.length_eq, List.length_map]; exact hfew
  refine wpAny_bind (wpAny_newList ?_ (by rw [sizeLine_eq]; omega))
  have hoL : (s1.heap.push (seqObj "list" vs.toArray 0)).get? s1.heap.objs.size = some (seqObj "list" vs.toArray 0) := Heap.get?_push_size _ rfl
  refine wpAny_bind (wpAny_holding (list_sort_data (A := A.in1) (s := { s1 with heap := s1.heap.push (seqObj "list" vs.toArray 0) }) (enc := Dn.toPy T) hoL hE (hE.mono fun v x ⟨q, e, hq⟩ => ⟨[], by rw [e]; exact hrd _ hq x rfl _ fun b u e => Heap.get?_push_of_some _ (k1 b u e), by simp⟩) (AllAlike.of (Dn.alike_of T hlt)) (Dn.sortable hso bs) (by rw [sizeLine_eq]; omega)
    (fun b hb => by have := Dn.dep_le T b; show A.units + 1 + 1 + _ < _; omega) fun out hl2 ho2 => ?_))
  rw [Dn.le_data hlt] at ho2
  refine wpAny_pure ⟨_, rfl, ?_⟩
  obtain ⟨c, hc⟩ := sortedHeap_at (vs := vs) (out := out.toArray) hoL
  refine hQ _ s1.heap.objs.size out c (fun b u e => ?_) g1 o1 hz hc ?_
  · have q := k1 b u e
    have hlt := Heap.lt_size q
    show (sortedHeap (s1.heap.push (seqObj "list" vs.toArray 0)) s1.heap.objs.size vs out.toArray).get? b = some u
    rw [sortedHeap_old (Nat.ne_of_lt hlt) (by rw [size_push']; exact Nat.lt_succ_of_lt hlt)]
    exact Heap.get?_push_of_some _ q
  · rw [← sortK_perm (so_kt hkt) pb]; exact ho2
end
end Tz
namespace Dn
open PySem PySem.Spec PyProof.Rows L2 TL Tz
section
variable {X : Cx}
theorem itemsK {P : Program} {w : World} : ∀ {k : List Key} {us : List Value}, Vals (k.map kV) us → PySem.ItemsAre (mixKind P w) k us
  | [], _, .nil => .nil
  | n :: k, _, .cons r t => .cons (kV_is r) (itemsK t)
theorem isT_of {pins : List (Addr × Obj)} {σ : L2.St} {H : Hp} {s : Shared} {b : Addr} {k : List Key} (I : Inv X pins σ H s) (h : H b = some (.tup (k.map kV))) : Tz.IsT X.prog X.w s.heap k b := by
  obtain ⟨its, r, ⟨o, ho, hc, n, hd⟩, _⟩ := I.tuple (tT h)
  exact ⟨o, its.toArray, n, ho, hc, hd, by simpa using itemsK r⟩
def rSetZ (K : PySem.W.Frag) (P : Program) (w : World) : List V → Hp → VK → Prop := fun xs H Q => ∃ (l : Addr) (ks : List (Addr × List Key)), xs = [V.ref l] ∧ SqL K H l (ks.map fun p => V.ref p.1) ∧ (∀ p ∈ ks, H p.1 = some (.tup (p.2.map kV))) ∧
  (∀ D : List (List Key), D.Nodup → (∀ k ∈ D, k ∈ ks.map (·.2)) → D.length ≤ 299) ∧
  ∀ a L, H a = none → (∀ p ∈ L, p ∈ ks) → (∀ p ∈ ks, p.2 ∈ L.map (·.2)) → (L.map (·.2)).Nodup → Q (.ref a) (upd H a (Tz.SetTO P w a L))
theorem cr_setZ (hc : X.calm = true) (hu : X.A.units + 64 < cLine) : CallR X (.type "set") (rSetZ X.K X.prog X.w) := by
  intro pins s σ H xs us Q I r h
  obtain ⟨l, ks, rfl, hl, hk, hf, q⟩ := h
  rw [Vals.ref1 r]
  obtain ⟨its, rv, pl, hz⟩ := I.list hl
  have hn : H s.heap.objs.size = none := I.hok.fresh (Nat.le_refl _)
  refine Tz.call_set_tups (P := X.prog) (w := X.w) ks (I.ok.hd hc) pl.isList (by simpa using Tz.refs_of_vals rv) (fun p hp => isT_of I (hk p hp)) hf (by omega) fun h' tk L es ep t R g k => ?_
  refine ⟨.ref s.heap.objs.size, upd H s.heap.objs.size (Tz.SetTO X.prog X.w s.heap.objs.size L), I.laid (t' := tk) k (Nat.le_refl _) (Tz.setTO_new R.t0), rfl, q _ L hn (fun p hp => ?_) (fun p hp => ?_) R.nd⟩
  · exact List.mem_of_mem_take (g.sub p hp)
  · exact g.all p (by rw [List.take_length]; exact hp)
def rSortedZ (T : Ty) (P : Program) (w : World) : List V → Hp → VK → Prop := fun vs H Q => ∃ (a : Addr) (L : List (Addr × List Key)) (ys : List T.den), vs = [V.ref a] ∧ H a = some (Tz.SetTO P w a L) ∧ (∀ p ∈ L, H p.1 = some (.tup (p.2.map kV))) ∧ L.map (·.2) = ys.map (keyL T) ∧
  ∀ (qs : List Addr) (p : Addr), Paired (fun (q : Addr) (y : T.den) => (q, keyL T y) ∈ L) qs (sortT T ys) → H p = none → Q (.ref p) (upd H p (.lst (qs.map V.ref)))
open PySem.W in
theorem each_refsZ {T : Ty} {L : List (Addr × List Key)} : ∀ {out : List Value} {ys : List T.den}, EachIs (fun v y => ∃ q, v = Value.ref q ∧ (q, keyL T y) ∈ L) out ys → ∃ qs : List Addr, out = qs.map Value.ref ∧ Paired (fun (q : Addr) (y : T.den) => (q, keyL T y) ∈ L) qs ys
  | _, _, .nil => ⟨[], rfl, .nil⟩
  | _, _, .cons h t => by
    obtain ⟨q, rfl, hq⟩ := h
    obtain ⟨qs, rfl, h2⟩ := each_refsZ t
    exact ⟨q :: qs, rfl, .cons hq h2⟩
theorem cr_sortedZ {k : Nat} {T : Ty} (hkt : T.kt = true) (hr : RoomG k X.A) (hc : X.calm = true) : CallR X (.builtin "sorted") (rSortedZ T X.prog X.w) := by
  intro pins s σ H vs us Q I r h
  obtain ⟨a, L, ys, rfl, ha, hk, hL, q⟩ := h
  have R0 : Tz.SetT0 X.prog X.w s.heap a L := (I.hok a _ ha).1
  obtain ⟨es, ep, t, R⟩ := R0.full fun p hp => isT_of I (hk p hp)
  rw [Vals.ref1 r]
  refine Tz.sorted_setZ hkt R (I.ok.hd hc) (by have := hr.units; omega) hL (fun p hp y e h' keep => keyK_reads I hkt (by rw [← e]; exact hk p hp) keep) fun s' p out c k g o hp hg hE => ?_
  obtain ⟨qs, rfl, hqs⟩ := each_refsZ hE
  have hlen : (qs.map V.ref).length ≤ sizeLine := by
    have e1 := pair_len hqs
    have e2 : (sortT T ys).length = ys.length := List.length_mergeSort ..
    have e3 := congrArg List.length hL
    rw [List.length_map, List.length_map] at e3
    have := R.few
    rw [List.length_map, sizeLine_eq]; omega
  have hn : H p = none := I.hok.fresh hp
  have J : Inv X pins σ (upd H p (.lst (qs.map V.ref))) { s with heap := s'.heap, gens := s'.gens, drawn := s'.drawn, toks := s'.toks } :=
    I.call (ch := []) (Un.laid k hp hn) (I.hok.laid k hp ⟨hlen, qs.map Value.ref, c, vals_refs qs, hg⟩) (by rw [g]; exact I.bare) (fun _ z => nomatch z)
  have e : s' = { s with heap := s'.heap, gens := s'.gens, drawn := s'.drawn, toks := s'.toks } := by
    cases s'
    cases s
    cases o
    rfl
  rw [e]
  exact ⟨.ref p, _, J, rfl, q qs p hqs hn⟩
def rLenZ (P : Program) (w : World) : List V → Hp → VK → Prop := fun vs H Q => ∃ (a : Addr) (L : List (Addr × List Key)), vs = [V.ref a] ∧ H a = some (Tz.SetTO P w a L) ∧ (∀ p ∈ L, H p.1 = some (.tup (p.2.map kV))) ∧ Q (.int ((L.length : Nat) : Int)) H
theorem cr_lenZ : CallR X (.builtin "len") (rLenZ X.prog X.w) := by
  intro pins s σ H vs us Q I r h
  obtain ⟨a, L, rfl, ha, hk, q⟩ := h
  have R0 : Tz.SetT0 X.prog X.w s.heap a L := (I.hok a _ ha).1
  obtain ⟨es, ep, t, R⟩ := R0.full fun p hp => isT_of I (hk p hp)
  rw [Vals.ref1 r]
  obtain ⟨o, ho, hex, hd⟩ := R.ob
  have hs := R.size
  have hf := R.few
  refine call_len_set ho hex hd R.fits (by omega) ?_
  rw [hs]
  exact ⟨.int ((L.length : Nat) : Int), H, I.tok _, ⟨_, rfl⟩, q⟩
theorem pair_mono {α β : Type} {P Q : α → β → Prop} (h : ∀ a b, P a b → Q a b) : ∀ {xs : List α} {ys : List β}, Paired P xs ys → Paired Q xs ys
  | _, _, .nil => .nil
  | _, _, .cons r t => .cons (h _ _ r) (pair_mono h t)
/-- the pairs of the list: their places and keys -/
theorem list_keys {K : PySem.W.Frag} {G : Hp} {T : Ty} (hkt : T.kt = true) : ∀ {vs : List V} {xs : List T.den}, RepL K T G vs xs → ∃ ks : List (Addr × List Key), vs = ks.map (fun p => V.ref p.1) ∧ ks.map (·.2) = xs.map (keyL T) ∧ ∀ p ∈ ks, G p.1 = some (.tup (p.2.map kV))
  | _, _, .nil => ⟨[], rfl, rfl, fun p h => by cases h⟩
  | _, _, .cons r t => by
    obtain ⟨p, rfl, h1⟩ := (rep_kt hkt).mp r
    obtain ⟨ks, rfl, h2, h3⟩ := list_keys hkt t
    refine ⟨(p, _) :: ks, rfl, by rw [List.map_cons, List.map_cons, h2], fun q hq => ?_⟩
    rcases List.mem_cons.mp hq with e | hq
    · rw [e]; exact h1
    · exact h3 q hq
theorem few_keys {T : Ty} [DecidableEq T.den] {xs : List T.den} {ks : List (Addr × List Key)} (e : ks.map (·.2) = xs.map (keyL T)) (h : (nubD xs).length ≤ 299) (D : List (List Key)) (nd : D.Nodup) (hD : ∀ k ∈ D, k ∈ ks.map (·.2)) : D.length ≤ 299 := by
  have := nodup_le (m := (nubD xs).map (keyL T)) nd fun k hk => by
    have hk := hD k hk
    rw [e] at hk
    obtain ⟨x, hx, rfl⟩ := List.mem_map.mp hk
    exact List.mem_map.mpr ⟨x, mem_nubD.mpr hx, rfl⟩
  rw [List.length_map] at this
  omega
theorem keys_nub {T : Ty} [DecidableEq T.den] (hkt : T.kt = true) {xs : List T.den} {ks L : List (Addr × List Key)} (e : ks.map (·.2) = xs.map (keyL T)) (h1 : ∀ p ∈ L, p ∈ ks) (h2 : ∀ p ∈ ks, p.2 ∈ L.map (·.2)) (nd : (L.map (·.2)).Nodup) :
    ∃ ys : List T.den, L.map (·.2) = ys.map (keyL T) ∧ ys.Perm (nubD xs) := by
  have key : ∀ l : List (List Key), (∀ k ∈ l, k ∈ xs.map (keyL T)) → ∃ ys : List T.den, l = ys.map (keyL T) := by
    intro l
    induction l with
    | nil => intro _; exact ⟨[], rfl⟩
    | cons k l ih =>
      intro h
      obtain ⟨x, _, e⟩ := List.mem_map.mp (h k (List.mem_cons_self ..))
      obtain ⟨ys, e2⟩ := ih fun j hj => h j (List.mem_cons_of_mem _ hj)
      exact ⟨x :: ys, by rw [List.map_cons, e, e2]⟩
  obtain ⟨ys, e2⟩ := key (L.map (·.2)) fun k hk => by
    obtain ⟨p, hp, rfl⟩ := List.mem_map.mp hk
    rw [← e]; exact List.mem_map.mpr ⟨p, h1 p hp, rfl⟩
  refine ⟨ys, e2, (List.perm_ext_iff_of_nodup ?_ (nubD_nodup xs)).mpr fun x => ?_⟩
  · rw [e2] at nd; exact List.Pairwise.of_map _ (fun _ _ hne e => hne (congrArg _ e)) nd
  · rw [mem_nubD]
    constructor
    · intro hx
      have : keyL T x ∈ L.map (·.2) := by rw [e2]; exact List.mem_map.mpr ⟨x, hx, rfl⟩
      obtain ⟨p, hp, e3⟩ := List.mem_map.mp this
      have : p.2 ∈ xs.map (keyL T) := by rw [← e]; exact List.mem_map.mpr ⟨p, h1 p hp, rfl⟩
      obtain ⟨z, hz, e4⟩ := List.mem_map.mp this
      rw [← keyK_inj hkt (e4.trans e3)]; exact hz
    · intro hx
      have : keyL T x ∈ ks.map (·.2) := by rw [e]; exact List.mem_map.mpr ⟨x, hx, rfl⟩
      obtain ⟨p, hp, e3⟩ := List.mem_map.mp this
      have := h2 p hp
      rw [e2] at this
      obtain ⟨z, hz, e4⟩ := List.mem_map.mp this
      rw [← keyK_inj hkt (e4.trans e3)]; exact hz
end
section
variable {X : Cx} {e : Expr} {p p2 p3 pos pos2 : Pos} {Γ Γ1 : List Slot} {T : Ty} {xs : List T.den}
theorem repK_list {K : PySem.W.Frag} {G : Hp} (hkt : T.kt = true) : ∀ {qs : List Addr} {ys : List T.den}, Paired (fun (q : Addr) (y : T.den) => G q = some (.tup ((keyL T y).map kV))) qs ys → RepL K T G (qs.map V.ref) ys
  | _, _, .nil => .nil
  | _, _, .cons h t => .cons ((rep_kt hkt).mpr ⟨_, rfl, h⟩) (repK_list hkt t)
/-- sorted(set(xs)) of tuples -/
theorem do_ssetK {k : Nat} [DecidableEq T.den] (hr : RoomG k X.A) (hm : X.mg "sorted" = none) (hm2 : X.mg "set" = none) (hz : (nubD xs).length ≤ 299) (h : DL X e Γ T xs Γ1) (hkt : T.kt = true := by rfl) (hc : X.calm = true := by rfl) (hg : Gl X "sorted" := by rfl) (hg2 : Gl X "set" := by rfl)
    (hs : starEach [e] X.env = (false, eval e X.env) :: starEach [] X.env := by rfl) (hpl : (backTo pos2 (starEach [] X.env)).any (·.1) = false := by rfl)
    (hs2 : starEach [.Call (.Name "set" p2) [e] [] pos2] X.env = (false, eval (.Call (.Name "set" p2) [e] [] pos2) X.env) :: starEach [] X.env := by rfl) (hpl2 : (backTo pos (starEach [] X.env)).any (·.1) = false := by rfl) :
    DO X (.Call (.Name "sorted" p) [.Call (.Name "set" p2) [e] [] pos2] [] pos) Γ (.lst T (ssetK T xs)) Γ1 := fun F G σ H W Q q =>
  wpe_of (pe_callB (cr_sortedZ hkt hr hc) hg hm (by decide +kernel) pa_wp (by decide) (by decide) hs2 hpl2) (wpa_one hs2
    (wpe_of (pe_callTy (cr_setZ hc (by have := hr.units; omega)) hg2 hm2 (by decide +kernel) pa_wp (by decide) (by decide) hs hpl) (wpa_one hs (h F G σ H W _ fun a vs G1 H1 s1 W1 h1 h2 => by
      obtain ⟨ks, rfl, e1, e2⟩ := list_keys hkt h2
      refine ⟨a, ks, rfl, h1, fun p hp => W1.gh _ _ (e2 p hp), few_keys e1 hz, fun b L hb l1 l2 l3 => ?_⟩
      obtain ⟨ys, e3, e4⟩ := keys_nub hkt e1 l1 l2 l3
      have W2 := (W1.new (ho := Tz.SetTO X.prog X.w b L) hb).drop (W1.tn hb)
      have gL : ∀ p ∈ L, G1 p.1 = some (.tup (p.2.map kV)) := fun p hp => e2 p (l1 p hp)
      refine ⟨b, L, ys, rfl, upd_same, fun p hp => W2.gh _ _ (gL p hp), e3, fun qs l hqs hl => ?_⟩
      have hq2 : Paired (fun (q : Addr) (y : T.den) => G1 q = some (.tup ((keyL T y).map kV))) qs (sortT T ys) := pair_mono (fun q y h => gL _ h) hqs
      have e5 : sortT T ys = ssetK T xs := sortK_perm (so_kt hkt) e4
      exact q l _ G1 _ s1 (W2.new hl) (W2.tn hl) ⟨_, rfl, by rw [← e5]; exact repK_list hkt hq2⟩))))
/-- len(set(xs)) of tuples -/
theorem de_lensetK {k : Nat} [DecidableEq T.den] (hr : RoomG k X.A) (hm : X.mg "len" = none) (hm2 : X.mg "set" = none) (hz : (nubD xs).length ≤ 299) (h : DL X e Γ T xs Γ1) (hkt : T.kt = true := by rfl) (hc : X.calm = true := by rfl) (hg : Gl X "len" := by rfl) (hg2 : Gl X "set" := by rfl)
    (hs : starEach [e] X.env = (false, eval e X.env) :: starEach [] X.env := by rfl) (hpl : (backTo pos2 (starEach [] X.env)).any (·.1) = false := by rfl)
    (hs2 : starEach [.Call (.Name "set" p2) [e] [] pos2] X.env = (false, eval (.Call (.Name "set" p2) [e] [] pos2) X.env) :: starEach [] X.env := by rfl) (hpl2 : (backTo pos (starEach [] X.env)).any (·.1) = false := by rfl) :
    DE X (.Call (.Name "len" p) [.Call (.Name "set" p2) [e] [] pos2] [] pos) Γ .int (((nubD xs).length : Nat) : Int) Γ1 := fun F G σ H W Q q =>
  wpe_of (pe_callB cr_lenZ hg hm PySem.boot_len pa_wp (by decide) (by decide) hs2 hpl2) (wpa_one hs2
    (wpe_of (pe_callTy (cr_setZ hc (by have := hr.units; omega)) hg2 hm2 (by decide +kernel) pa_wp (by decide) (by decide) hs hpl) (wpa_one hs (h F G σ H W _ fun a vs G1 H1 s1 W1 h1 h2 => by
      obtain ⟨ks, rfl, e1, e2⟩ := list_keys hkt h2
      refine ⟨a, ks, rfl, h1, fun p hp => W1.gh _ _ (e2 p hp), few_keys e1 hz, fun b L hb l1 l2 l3 => ?_⟩
      obtain ⟨ys, e3, e4⟩ := keys_nub hkt e1 l1 l2 l3
      have W2 := (W1.new (ho := Tz.SetTO X.prog X.w b L) hb).drop (W1.tn hb)
      have gL : ∀ p ∈ L, G1 p.1 = some (.tup (p.2.map kV)) := fun p hp => e2 p (l1 p hp)
      refine ⟨b, L, rfl, upd_same, fun p hp => W2.gh _ _ (gL p hp), ?_⟩
      have e5 : L.length = (nubD xs).length := by
        have := congrArg List.length e3
        rw [List.length_map, List.length_map, e4.length_eq] at this
        exact this
      rw [e5]
      exact q _ G1 _ s1 W2 rfl))))
end
end Dn

set_option Elab.async false
set_option linter.all false
set_option maxRecDepth 100000
set_option maxHeartbeats 2000000
/-! Dn48: dicts with ints as keys: {}, d.get(k, x), a def that returns such a dict -/
namespace Dn
open PySem PySem.Spec PyProof.Rows L2 TL
section
variable {X : Cx} {a b e : Expr} {pos p npos apos : Pos} {Γ Γ1 Γ2 : List Slot} {t : Ty} {n : Str}
/-- {} -/
theorem do_dnew (t : Ty) : DO X (.Dict [] [] pos) Γ (.dct t []) Γ := fun F G σ H W Q q =>
  wpe_of pe_dnewK fun p hp => q p _ G _ (Same.refl G) (W.new hp) (W.tn hp) ⟨[], rfl, .nil⟩
/-- d.get(k, x) -/
theorem de_dget2 (i : Nat) {k : Nat} {pin : Bool} {kvs : List (Int × t.den)} {y : Int} {x : t.den} (hr : RoomG k X.A) (ha : DE X a Γ .int y Γ1) (hb : DE X b Γ1 t x Γ2) (h0 : Γ[i]? = some (.ow pin (.dct t kvs))) (h2 : Γ2[i]? = some (.ow pin (.dct t kvs)))
    (hN : X.N[i]? = some n := by rfl) (hv : Vis X.env.scope n := by first | exact Or.inl rfl | exact Or.inr (Or.inl rfl) | exact Or.inr (Or.inr rfl))
    (hd : (n == ("__debug__" : Str)) = false := by decide) (hcd : (n == ("__classdict__" : Str)) = false := by decide) (m : M2 X (.Name n npos) "get" apos a b pos := by exact ⟨rfl, rfl, rfl, rfl⟩) : DE X (.Call (.Attribute (.Name n npos) "get" apos) [a, b] [] pos) Γ t ((dget kvs y).getD x) Γ2 := fun F G σ H W Q q => by
  obtain ⟨d, ws, e1, e2, e3⟩ := W.ownedD h0
  have hu : X.A.units + 1 < cLine := by have := hr.units; omega
  refine wpe_of (pe_dget2 hu (pe_var hN hv hd hcd) pe_wp pe_wp m) ⟨.ref d, e1, d, rfl, .inl ⟨ws, .inl e2⟩, ha F G σ H W _ fun w G1 H1 s1 W1 r1 => hb F G1 σ H1 W1 _ fun v G2 H2 s2 W2 r2 => ?_⟩
  obtain ⟨d', ws', g1, g2, g3⟩ := W2.ownedD h2
  rw [e1] at g1; cases g1
  have r1 : w = V.int y := r1
  subst r1
  refine ⟨valV ws' (Sum.inl y), DGet.k (k := Sum.inl y) g2, q _ G2 H2 (s1.trans s2) W2 ?_⟩
  cases e : dget kvs y with
  | none => rw [(repD_get g3).1 e]; exact r2
  | some z => obtain ⟨u, f1, f2⟩ := (repD_get g3).2 z e; rw [f1]; exact f2
end
def riOD (K : PySem.W.Frag) (t : Ty) : RI (List (Int × t.den)) := fun F G σ H v x => ∃ p ho, v = .ref p ∧ F.T p = none ∧ OwnOk K G ho (.dct t x) ∧ ∃ Γ, Wd K { F with T := upd F.T p ho } G σ H Γ
section
variable {X : Cx} {Γ Γ1 Γ0 : List Slot} {e : Expr} {pos : Pos} {t : Ty} {as : List Arg} {vs : List V} {H : Hp} {Q : VK} {E : XK} {body : List Stmt} {N : List Str}
theorem ds_retOD {xs : List (Int × t.den)} (he : DO X e Γ (.dct t xs) Γ1) : DS X (riOD X.K t) (.Return (some e) pos) Γ (.rt xs) := fun F G σ H W D q =>
  wps_of (ps_ret pe_wp) (he F G σ H W _ fun p ho G' H' s W' hT ok => q (.ref p) σ G' H' s ⟨p, ho, rfl, hT, ok, _, W'⟩)
theorem body_OD {t : Ty} {o : Out (List (Int × t.den))} {d : List (Int × t.den)} (hb : DSs X (riOD X.K t) body Γ0 o) (ho : o.Rets) (hp : Pm0 X.K as (.ow (.dct t (o.val d))) vs H Q E) (hΓ : Γ0 = as.map Arg.slot ++ List.replicate (N.length - as.length) .un := by rfl) (hl : as.length ≤ N.length := by exact Nat.le_of_ble_eq_true rfl) :
    WPSs X body { nx := fun _ H' => Q .non H', rt := Q } (L2.start N vs) H := by
  obtain ⟨G, sg, pr, k⟩ := hp
  have el := pair_len pr
  have ss := args_slots (F := ⟨besides G H, 0⟩) (H := H) (m := N.length - as.length) pr
  refine hb ⟨besides G H, 0⟩ G (L2.start N vs) H ⟨?_, sg, fun c u e => (besides_some e).1, fun c u e _ => (besides_some e).2, fun i s e => ?_, fun i j s s' p ne e1 o1 => ?_, NsOk.no fun i s e => by rw [hΓ] at e; exact args_ns e⟩ _ (out_end (d := d) ho fun v σ G' H' s1 r => ?_)
  · rw [hΓ, start_len]; simp [el]
  · rw [hΓ] at e; rw [start_len, el]; exact (ss i s e).1
  · rw [hΓ] at e1; rw [(ss i s e1).2] at o1; cases o1
  · obtain ⟨p, hop, rfl, hT, ok, Γ, W⟩ := r
    have W0 := W.drop hT
    have hd0 := W.held
    have hd : H' p = some hop ∧ G' p = none := ⟨hd0.1, hd0.2 (own_nt ok)⟩
    have pn : H p = none := by
      have hT' : besides G H p = none := hT
      cases g : G p with
      | none => rw [besides_of g] at hT'; exact hT'
      | some z => rw [s1 p z g] at hd; cases hd.2
    refine k (.ref p) G' H' s1 W.gh (fun c u e => ?_) (fun c u e hn n => ?_) ⟨p, hop, rfl, pn, hd.2, hd.1, ok⟩
    · cases g : G c with
      | none => exact W0.th c u ((besides_of g).trans e)
      | some z => rw [sg c z g] at e; cases e; exact W.gh c _ (s1 c _ g)
    · exact W0.tg c u ((besides_of n).trans e) hn
end
section
variable {X : Cx} {e : Expr} {p pos : Pos} {Γ Γ1 : List Slot} {a b c : Ty}
/-- len of a pair, of a triple -/
theorem de_lenP2 {x : (Ty.p2 a b).den} (hm : X.mg "len" = none) (h : DE X e Γ (.p2 a b) x Γ1) (hg : Gl X "len" := by rfl) (hs : starEach [e] X.env = (false, eval e X.env) :: starEach [] X.env := by rfl) (hpl : (backTo pos (starEach [] X.env)).any (·.1) = false := by rfl) :
    DE X (.Call (.Name "len" p) [e] [] pos) Γ .int (2 : Int) Γ1 := fun F G σ H W Q q =>
  wpe_of (pe_callB call_len_seq hg hm PySem.boot_len pa_wp (by decide) (by decide) hs hpl) (wpa_one hs (h F G σ H W _ fun v G1 H1 s1 W1 r => by
    obtain ⟨q0, v1, v2, rfl, h1, h2, h3⟩ := r
    exact ⟨q0, [v1, v2], rfl, .inr (tT (W1.gh _ _ h1)), q _ G1 H1 s1 W1 rfl⟩))
theorem de_lenP3 {x : (Ty.p3 a b c).den} (hm : X.mg "len" = none) (h : DE X e Γ (.p3 a b c) x Γ1) (hg : Gl X "len" := by rfl) (hs : starEach [e] X.env = (false, eval e X.env) :: starEach [] X.env := by rfl) (hpl : (backTo pos (starEach [] X.env)).any (·.1) = false := by rfl) :
    DE X (.Call (.Name "len" p) [e] [] pos) Γ .int (3 : Int) Γ1 := fun F G σ H W Q q =>
  wpe_of (pe_callB call_len_seq hg hm PySem.boot_len pa_wp (by decide) (by decide) hs hpl) (wpa_one hs (h F G σ H W _ fun v G1 H1 s1 W1 r => by
    obtain ⟨q0, v1, v2, v3, rfl, h1, h2, h3, h4⟩ := r
    exact ⟨q0, [v1, v2, v3], rfl, .inr (tT (W1.gh _ _ h1)), q _ G1 H1 s1 W1 rfl⟩))
end
end Dn

set_option Elab.async false
set_option linter.all false
set_option maxRecDepth 100000
set_option maxHeartbeats 2000000
/-! Dn49: a comprehension whose test changes something; d.items() -/
namespace Dn
open PySem PySem.Spec PyProof.Rows L2 TL
section
variable {X : Cx} {S α : Type} {tg iter elt : Expr} {ifs : List Expr} {scope : Scope} {Γ Γ1 : List Slot} {ys : List α} {B : α → List Slot → List Slot} {tgs : List Nat} {g : TG} {t : Ty}
theorem fold_mapO {β : Type} {f : S → α → Option β × S} : ∀ {ys : List α} {a : List β × S}, ys.foldl (lcF f) a = (a.1 ++ (mapS f a.2 ys).1.filterMap id, (mapS f a.2 ys).2)
  | [], a => by simp [mapS]
  | y :: ys, a => by
    rw [List.foldl_cons, fold_mapO]
    have em : mapS f a.2 (y :: ys) = ((f a.2 y).1 :: (mapS f (f a.2 y).2 ys).1, (mapS f (f a.2 y).2 ys).2) := rfl
    rw [em]
    unfold lcF
    rcases e : f a.2 y with ⟨o, s⟩
    cases o <;> simp
theorem allC_O {β : Type} {P : S → α → Prop} {f : S → α → Option β × S} : ∀ {ys : List α} {s : S}, AllS P f s ys → AllC P f s ys
  | [], _, _ => trivial
  | _ :: _, _, h => ⟨h.1, allC_O h.2⟩
theorem lcq_mapO (own : List (Str × Nat)) (Γs : S → List Slot) (s0 : S) {P : S → α → Prop} {f : S → α → Option t.den × S} (hi : DI X tg iter g Γ ys B tgs Γ1) (h0 : Γ1 = Γs s0) (hg : ∀ (sh : Shared) (H : Hp) (C : Addr) (cl : List (Str × Addr)) (fp : List Addr), PG (X.blk sh H scope (compEnvC scope cl C X.env) fp) tg g) (hz : Sz ys.length) (hP : AllS P f s0 ys)
    (hb : ∀ s y, P s y → ∃ b x s' Γt Γe, (∀ (sh : Shared) (H : Hp) (C : Addr) (cl : List (Str × Addr)) (fp : List Addr), DTs (X.blk sh H scope (compEnvC scope cl C X.env) fp) ifs (B y (Γs s)) b Γt) ∧ (b = true → (∀ (sh : Shared) (H : Hp) (C : Addr) (cl : List (Str × Addr)) (fp : List Addr), DE (X.blk sh H scope (compEnvC scope cl C X.env) fp) elt Γt t x Γe)) ∧ Wk Γt (Γs s') ∧ Wk Γe (Γs s') ∧ (bif b then some x else none, s') = f s y)
    (ok : BlkOk X.N X.env.scope scope own) (hw : ∀ s, wipeS (Γs s) (own.map (·.2)) = Γs s := by intro _; rfl) (htg : ∀ i ∈ tgs, i ∈ own.map (·.2) := by decide) : LcOk X elt tg iter ifs scope Γ (.lst t ((mapS f s0 ys).1.filterMap id)) (Γs (mapS f s0 ys).2) := by
  subst h0
  have r := lc_S (X := X) (scope := scope) (elt := elt) (ifs := ifs) (P := P) (t := t) own Γs (s0 := s0) (f := f) hi hg hz (allC_O hP) (fun s y p => by
    obtain ⟨b, x, s', Γt, Γe, h1, h2, k1, k2, e⟩ := hb s y p
    rw [← e]
    exact ⟨b, Γt, x, Γe, fun sh H C cl fp => ⟨h1 sh H C cl fp, fun z => ⟨h2 z sh H C cl fp, by rw [z]; rfl, k2⟩, fun z => ⟨by rw [z]; rfl, k1⟩⟩⟩) ok hw htg
  rw [fold_mapO] at r
  exact r
end
end Dn

set_option Elab.async false
set_option linter.all false
set_option maxRecDepth 100000
set_option maxHeartbeats 4000000
/-! Dn50: three names from a list of three; dict(a list of pairs) with keys that are pairs; key in such a dict -/
namespace Dn
open PySem PySem.Spec PyProof.Rows L2 TL Tz
section
variable {X : Cx} {ρ : Type} {R : RI ρ} {e tg : Expr} {pos : Pos} {Γ Γ1 : List Slot} {t : Ty} {xs : List t.den}
theorem ds_unpackL3 (i j k : Nat) (d : t.den) (hl : xs.length = 3) (he : DL X e Γ t xs Γ1) (hp : PG X tg (gLst X.K 3 (gCons (gName i) (gCons (gName j) (gCons (gName k) gNil))))) (hs : swapsWithSole [tg] e pos.line X.env = pure false := by rfl) (hw : swappedStores [tg] e X.env = pure none := by rfl)
    (h1 : (assignEach [tg] X.env).map (·.2) = [assign tg X.env] := by rfl) : DS X R (.Assign [tg] e pos) Γ (.nx (((Γ1.set i (.fr t (get d xs (0 : Int)))).set j (.fr t (get d xs (1 : Int)))).set k (.fr t (get d xs (2 : Int))))) := fun F G σ H W D q =>
  wps_of (ps_asg pe_wp hp hs hw h1) (he F G σ H W _ fun a vs G1 H1 s1 W1 h3 h4 => by
    cases h4 with
    | nil => cases hl
    | cons r1 h4 =>
      cases h4 with
      | nil => cases hl
      | cons r2 h4 =>
        cases h4 with
        | nil => cases hl
        | cons r3 h4 =>
          cases h4 with
          | nil =>
            refine ⟨a, _, rfl, h3, rfl, ?_⟩
            exact (egs_cons i t (egs_cons j t (egs_cons k t egs_nil))).2 F G1 σ H1 Γ1 _ [.fr t _, .fr t _, .fr t _] W1 (.cons r1 (.cons r2 (.cons r3 .nil))) rfl _ fun σ' _ W2 => q σ' G1 H1 s1 W2
          | cons _ _ => cases hl)
end
/-- the pairs of the list: place of the pair, place of its key, the key, the value -/
structure Kp4 where
  p : Addr
  b : Addr
  k : List Key
  v : V
section
variable {X : Cx}
theorem pairsT_val {pins : List (Addr × Obj)} {σ : L2.St} {H : Hp} {s : Shared} (I : Inv X pins σ H s) : ∀ {qs : List Kp4}, (∀ q ∈ qs, H q.p = some (.tup [V.ref q.b, q.v]) ∧ H q.b = some (.tup (q.k.map kV))) →
    ∃ us : List Value, Paired (fun q u => RelV q.v u ∧ IsTup s.heap q.p #[.ref q.b, u]) qs us
  | [], _ => ⟨[], .nil⟩
  | q :: qs, h => by
    obtain ⟨h1, h2⟩ := h q (List.mem_cons_self ..)
    obtain ⟨us, r⟩ := pairsT_val I fun x hx => h x (List.mem_cons_of_mem _ hx)
    obtain ⟨its, rv, ht, _⟩ := I.tuple (tT h1)
    cases rv with
    | @cons _ u0 _ _ ru rv =>
      cases rv with
      | @cons _ y _ _ ry rv =>
        cases rv
        have e : u0 = Value.ref q.b := ru
        subst e
        exact ⟨y :: us, .cons ⟨ry, ht⟩ r⟩
def rDictTN (K : PySem.W.Frag) : List V → Hp → VK → Prop := fun xs H Q => ∃ (a : Addr) (qs : List Kp4), xs = [.ref a] ∧ SqL K H a (qs.map fun q => V.ref q.p) ∧ (∀ q ∈ qs, H q.p = some (.tup [V.ref q.b, q.v]) ∧ H q.b = some (.tup (q.k.map kV))) ∧ (qs.map (·.k)).Nodup ∧
  ∀ p, H p = none → Q (.ref p) (upd H p (.dT (qs.map fun q => (q.k, q.v))))
theorem zip_at {qs : List Kp4} {us : List Value} {R : Kp4 → Value → Prop} (r : Paired R qs us) {j : Nat} {q : Kp4} (h : qs[j]? = some q) : ∃ u, us[j]? = some u ∧ R q u := by
  induction r generalizing j with
  | nil => simp at h
  | cons h0 _ ih =>
    cases j with
    | zero => cases h; exact ⟨_, rfl, h0⟩
    | succ j => obtain ⟨u, h1, h2⟩ := ih (j := j) (by simpa using h); exact ⟨u, by simpa using h1, h2⟩
theorem cr_dictTN {k : Nat} (hr : RoomG k X.A) (hcalm : X.calm = true) : CallR X (.type "dict") (rDictTN X.K) := by
  intro pins s σ H xs us0 Q I r q
  obtain ⟨a, qs, ex, ha, hq, hnd, q⟩ := q
  subst ex
  rw [Vals.ref1 r]
  obtain ⟨its, rv, pl, hz⟩ := I.list ha
  obtain ⟨us, hus⟩ := pairsT_val I hq
  have hlen : us.length = qs.length := (Paired.length hus).symm
  have hil : its.length = qs.length := by have := rv.length; rw [List.length_map] at this; exact this.symm
  have refs : ∀ {l : List Kp4} {vs : List Value}, Vals (l.map fun q => V.ref q.p) vs → vs = l.map fun q => Value.ref q.p := by
    intro l
    induction l with
    | nil => intro vs h; cases h; rfl
    | cons x l ih => intro vs h; cases h with | cons r t => cases r; rw [ih t]; rfl
  have ei := refs rv
  have hu := hr.units
  have hz2 : qs.length ≤ sizeLine := by rw [List.length_map] at hz; exact hz
  have key : ∀ (j : Nat) (q0 : Kp4) (u : Value), qs[j]? = some q0 → us[j]? = some u → RelV q0.v u ∧ IsTup s.heap q0.p #[.ref q0.b, u] := fun j q0 u h1 h2 => by
    obtain ⟨u', h3, h4⟩ := zip_at hus h1
    rw [h2] at h3; cases h3; exact h4
  refine PySem.call_dict_pairsH (knd := tupleKind (mixKind X.prog X.w)) (ps := List.zipWith (fun (q : Kp4) u => (q.k, q.b, u)) qs us)
    (PairArg.list a its.toArray (fun j => (qs.map (·.p)).getD j 0) (List.zipWith (fun (q : Kp4) u => (Value.ref q.b, u)) qs us)) (I.ok.hd hcalm) (show X.A.in1.in1.units < cLine by show X.A.units + 1 + 1 < cLine; omega) ⟨pl, by simp [hil, hlen], fun j k v hj => ?_⟩ ⟨by simp, fun j k v hj => ?_⟩ (fun h' hk x hx => ?_) (by simp [hlen]; omega) fun h' tk hd' k => ?_
  · rw [List.getElem?_zipWith] at hj
    cases e1 : qs[j]? with
    | none => rw [e1] at hj; simp at hj
    | some q0 =>
      cases e2 : us[j]? with
      | none => rw [e1, e2] at hj; simp at hj
      | some u =>
        rw [e1, e2] at hj
        have hj : (Value.ref q0.b, u) = (k, v) := Option.some.inj hj
        cases hj
        obtain ⟨_, h4⟩ := key j q0 _ e1 e2
        have e5 : (qs.map (·.p)).getD j 0 = q0.p := by rw [List.getD_eq_getElem?_getD, List.getElem?_map, e1]; rfl
        show its.toArray[j]? = some (Value.ref ((qs.map (·.p)).getD j 0)) ∧ PairAt s.heap ((qs.map (·.p)).getD j 0) (Value.ref q0.b) _
        rw [e5]
        exact ⟨by rw [ei]; simp [e1], .inl h4⟩
  · have hj : (List.zipWith (fun (q : Kp4) u => (Value.ref q.b, u)) qs us)[j]? = some (k, v) := hj
    rw [List.getElem?_zipWith] at hj
    cases e1 : qs[j]? with
    | none => rw [e1] at hj; simp at hj
    | some q0 =>
      cases e2 : us[j]? with
      | none => rw [e1, e2] at hj; simp at hj
      | some u =>
        rw [e1, e2] at hj
        have hj : (Value.ref q0.b, u) = (k, v) := Option.some.inj hj
        cases hj
        exact ⟨q0.k, q0.b, by rw [List.getElem?_zipWith, e1, e2], rfl⟩
  · obtain ⟨j, hj⟩ := List.getElem?_of_mem hx
    rw [List.getElem?_zipWith] at hj
    cases e1 : qs[j]? with
    | none => rw [e1] at hj; simp at hj
    | some q0 =>
      cases e2 : us[j]? with
      | none => rw [e1, e2] at hj; simp at hj
      | some u =>
        rw [e1, e2] at hj
        have hj : (q0.k, q0.b, u) = x := Option.some.inj hj
        subst hj
        obtain ⟨o, items, n, ho, r'⟩ := isT_of I (hq q0 (List.mem_of_getElem? e1)).2
        exact ⟨o, items, n, hk q0.b o (Nat.ne_of_lt (Heap.lt_size ho)) (fun h => by cases h) ho, r'⟩
  · have hfst : (List.zipWith (fun (q : Kp4) u => (q.k, q.b, u)) qs us).map (·.1) = qs.map (·.k) := by
      clear hd'
      have : ∀ {l : List Kp4} {m : List Value}, m.length = l.length → (List.zipWith (fun (q : Kp4) u => (q.k, q.b, u)) l m).map (·.1) = l.map (·.k) := by
        intro l
        induction l with
        | nil => intro m _; rfl
        | cons x l ih =>
          intro m hm
          cases m with
          | nil => cases hm
          | cons y m => simp only [List.zipWith_cons_cons, List.map_cons]; rw [ih (by simpa using hm)]
      exact this hlen
    rw [storedAllH_nil_of_nodup _ (by rw [hfst]; exact hnd)] at hd'
    obtain ⟨o, es, ep, ho, hx, hdt, he, _, hn⟩ := hd'
    have hm : (s.heap.objs.size == sysModules) = false := beq_eq_false_iff_ne.mpr (Nat.ne_of_gt I.big)
    have hnone : H s.heap.objs.size = none := I.hok.fresh (Nat.le_refl _)
    have pr : ∀ {l : List Kp4} {m : List Value}, Paired (fun q u => RelV q.v u ∧ IsTup s.heap q.p #[.ref q.b, u]) l m → (∀ q ∈ l, H q.b = some (.tup (q.k.map kV))) →
        Paired (fun (p : List Key × V) (q : List Key × Addr × Value) => p.1 = q.1 ∧ upd H s.heap.objs.size (.dT (qs.map fun q => (q.k, q.v))) q.2.1 = some (.tup (p.1.map kV)) ∧ RelV p.2 q.2.2) (l.map fun q => (q.k, q.v)) (List.zipWith (fun (q : Kp4) u => (q.k, q.b, u)) l m) := by
      intro l m h
      induction h with
      | nil => intro _; exact .nil
      | @cons x y l m h0 _ ih =>
        intro hb
        have hb0 := hb x (List.mem_cons_self ..)
        refine .cons ⟨rfl, ?_, h0.1⟩ (ih fun z hz => hb z (List.mem_cons_of_mem _ hz))
        show upd H s.heap.objs.size _ x.b = _
        rw [upd_ne (fun e => by rw [e, hnone] at hb0; cases hb0)]
        exact hb0
    refine ⟨.ref s.heap.objs.size, upd H s.heap.objs.size (.dT (qs.map fun q => (q.k, q.v))), I.laid (t' := tk) (fun b o e => k b o (by simp) e) (Nat.le_refl _) (show ObjOk X.prog X.w _ _ _ (.dT _) from ⟨by rw [List.length_map]; omega, hm, _, pr hus fun q hq' => (hq q hq').2, o, es, ep, ho, hx, hdt, he, hn⟩), rfl, q _ hnone⟩
end
section
variable {X : Cx} {a b e : Expr} {pos p npos : Pos} {Γ Γ1 : List Slot} {A B t : Ty} {n : Str}
theorem pairsT_keys {K : PySem.W.Frag} {G : Hp} (hA : A.k1 = true) (hB : B.k1 = true) : ∀ {vs : List V} {xs : List ((Ty.p2 A B).den × t.den)}, RepL K (.p2 (.p2 A B) t) G vs xs →
    ∃ qs : List Kp4, vs = qs.map (fun q => V.ref q.p) ∧ (∀ q ∈ qs, G q.p = some (.tup [V.ref q.b, q.v]) ∧ G q.b = some (.tup (q.k.map kV))) ∧ qs.map (·.k) = xs.map (fun x => keyL (.p2 A B) x.1) ∧ RepT K (.p2 A B) t G (qs.map fun q => (q.k, q.v)) xs
  | _, _, .nil => ⟨[], rfl, fun q h => (by cases h), rfl, .nil⟩
  | _, _, @Paired.cons _ _ _ v y vs ys r q => by
    obtain ⟨p, v1, v2, rfl, h1, h2, h3⟩ := r
    obtain ⟨b0, rfl, hb0⟩ := rep_key hA hB h2
    obtain ⟨qs, rfl, h4, h5, h6⟩ := pairsT_keys hA hB q
    refine ⟨⟨p, b0, keyL (.p2 A B) y.1, v2⟩ :: qs, rfl, fun x hx => ?_, congrArg (keyL (.p2 A B) y.1 :: ·) h5, .cons ⟨rfl, h3⟩ h6⟩
    rcases List.mem_cons.mp hx with e | hx
    · rw [e]; exact ⟨h1, hb0⟩
    · exact h4 x hx
/-- dict(a list of pairs), the keys unlike pairs -/
theorem do_dictTN {k : Nat} {xs : List ((Ty.p2 A B).den × t.den)} (hr : RoomG k X.A) (hm : X.mg "dict" = none) (hn : (xs.map (·.1)).Nodup) (h : DL X e Γ (.p2 (.p2 A B) t) xs Γ1) (hA : A.k1 = true := by rfl) (hB : B.k1 = true := by rfl) (hc : X.calm = true := by rfl) (hg : Gl X "dict" := by rfl)
    (hs : starEach [e] X.env = (false, eval e X.env) :: starEach [] X.env := by rfl) (hpl : (backTo pos (starEach [] X.env)).any (·.1) = false := by rfl) : DO X (.Call (.Name "dict" p) [e] [] pos) Γ (.dtt (.p2 A B) t xs) Γ1 := fun F G σ H W Q q =>
  wpe_of (pe_callTy (cr_dictTN hr hc) hg hm (by decide +kernel) pa_wp (by decide) (by decide) hs hpl) (wpa_one hs (h F G σ H W _ fun a vs G1 H1 s1 W1 h1 h2 => by
    obtain ⟨qs, rfl, h3, h4, h5⟩ := pairsT_keys hA hB h2
    refine ⟨a, qs, rfl, h1, fun x hx => ⟨W1.gh _ _ (h3 x hx).1, W1.gh _ _ (h3 x hx).2⟩, ?_, fun l hl => q l _ G1 _ s1 (W1.new hl) (W1.tn hl) ⟨_, rfl, h5⟩⟩
    rw [h4, show xs.map (fun x => keyL (.p2 A B) x.1) = (xs.map (·.1)).map (keyL (.p2 A B)) by rw [List.map_map]; rfl]
    exact List.Pairwise.map _ (fun x y ne e => ne (keyL_inj hA hB e)) hn))
theorem valV_any {ws : List (List Key × V)} {k : List Key} : (valV ws k).isSome = ws.any fun p => decide (p.1 = k) := by
  induction ws with
  | nil => rfl
  | cons w ws ih =>
    unfold valV at *
    rw [List.find?_cons, List.any_cons]
    cases decide (w.1 = k) with
    | true => rfl
    | false => exact ih
/-- key in d -/
theorem dc_tIn (i : Nat) {k : Nat} {pin : Bool} {kvs : List ((Ty.p2 A B).den × t.den)} {y : (Ty.p2 A B).den} [DecidableEq (Ty.p2 A B).den] (hr : RoomG k X.A) (ha : DE X a Γ (.p2 A B) y Γ1) (h : Γ1[i]? = some (.ow pin (.dtt (.p2 A B) t kvs)) := by rfl) (hA : A.k1 = true := by rfl) (hB : B.k1 = true := by rfl) (hN : X.N[i]? = some n := by rfl) (hv : Vis X.env.scope n := by first | exact Or.inl rfl | exact Or.inr (Or.inl rfl) | exact Or.inr (Or.inr rfl))
    (hd : (n == ("__debug__" : Str)) = false := by decide) (hcd : (n == ("__classdict__" : Str)) = false := by decide) : DC X .In a (.Name n npos) Γ (kvs.any fun p => decide (p.1 = y)) Γ1 := fun F G σ H W Q q => by
  have hu : X.A.units + 1 < cLine := by have := hr.units; omega
  refine wpc_of (pc_din hu pe_wp (pe_var hN hv hd hcd)) (ha F G σ H W _ fun w G1 H1 s1 W1 r1 => ?_)
  obtain ⟨p, ws, h1, h2, h3⟩ := W1.ownedT h
  obtain ⟨b0, rfl, hb0⟩ := rep_key hA hB r1
  refine ⟨.ref p, h1, p, valV ws (keyL (.p2 A B) y), rfl, DGet.t h2 (W1.gh _ _ hb0), q _ G1 H1 s1 W1 ?_⟩
  rw [valV_any, repT_any hA hB h3]; rfl
end
end Dn

set_option Elab.async false
set_option linter.all false
set_option maxRecDepth 100000
set_option maxHeartbeats 1000000
/-! Dn51: reversed(text) -/
namespace Rs
open PySem PySem.Spec PyProof.Rows RT Rv
theorem norev_str : typeLookup (.type "str") "__reversed__" = pure none := by rw [typeLookup_type, builtinLookup_eq_fast]; kernel_rfl
theorem get_str : typeLookup (.type "str") "__getitem__" = pure (some (.builtin "str.__getitem__")) := by rw [typeLookup_type, builtinLookup_eq_fast]; kernel_rfl
theorem sub_str_dict : isSubtype (.type "str") (.type "dict") = pure false := by rw [isSubtype_type]; kernel_rfl
def rsObj (x : Str) (t : Tok) (i : Int) : Obj := { cls := .type "reversed", data := .fields #[.str x t, rawInt i] }
/-- reversed(x), the next place i -/
def IsRs (h : Heap) (a : Addr) (x : Str) (t : Tok) (i : Int) : Prop := ∃ o, h.get? a = some o ∧ o.cls = .type "reversed" ∧ o.data = .fields #[.str x t, rawInt i]
theorem IsRs.at {h h' : Heap} {a : Addr} {x : Str} {t : Tok} {i : Int} (y : IsRs h a x t i) (e : ∀ o, h.get? a = some o → h'.get? a = some o) : IsRs h' a x t i := let ⟨o, ho, r⟩ := y; ⟨o, e _ ho, r⟩
section
variable {prog : Program} {w : World} {A : Around} {E : Value → Shared → Prop} {s : Shared}
theorem IsRs.typeIs {a : Addr} {x : Str} {t : Tok} {i : Int} (y : IsRs s.heap a x t i) : s.TypeIs (.ref a) "reversed" := let ⟨o, ho, hc, _⟩ := y; ⟨o, ho, hc⟩
theorem code_reversed_str {x : Str} {t : Tok} {Q₁ : Value → Shared → Prop} (hfit : ¬ (x.length : Int) ≥ 2 ^ 63)
    (h : Q₁ (.ref s.heap.objs.size) { s with heap := s.heap.push (rsObj x t ((x.length : Int) - 1)), toks := s.toks + 1 + 1 }) :
    codeAny (model prog w) A (.call (.builtin "reversed.__new__") ⟨[.type "reversed", .str x t], []⟩) (wants Q₁ E) s := by
  have hT : s.TypeIs (.str x t) "str" := typeIs_str s x t
  refine codeAny_of_tree ?_
  show wpAny _ A.in1 (do checkBuiltinCall "reversed.__new__" ⟨[.type "reversed", .str x t], []⟩; again (.builtin "reversed.__new__" ⟨[.type "reversed", .str x t], []⟩)) _ _ s
  refine wpAny_bind (wpAny_of_eq (F.newCall_reversed_1 _) (wpAny_pure ⟨plainId_quiet F.plain_reversed_new _, codeAny_builtin F.entry_reversed_new ?_⟩))
  rw [Around.under_plainId F.plain_reversed_new _]
  unfold Builtin.«reversed.__new__»
  refine wpAny_bind (wpAny_of_eq (newClass_reversed _) ?_)
  try dsimp only
  refine wpAny_bind (wpAny_of_eq (a := ()) (by first | rfl | kernel_rfl) ?_)
  try dsimp only
  refine wpAny_bind (wpAny_of_eq (a := ()) (by first | rfl | kernel_rfl) ?_)
  try dsimp only
  refine wpAny_bind (wpAny_specialOf hT norev_str ?_)
  try dsimp only
  refine wpAny_bind ?_
  wp_delta
  refine wpAny_bind (wpAny_isInstance (T := "str") (U := "dict") (b := false) hT sub_str_dict ?_)
  try dsimp only
  try rw [if_neg Bool.false_ne_true]
  try dsimp only
  refine wpAny_bind (wpAny_specialOf hT get_str ?_)
  try dsimp only
  try rw [if_pos (by decide +kernel)]
  refine wpAny_pure ?_
  try dsimp only
  try rw [if_neg (by decide)]
  try dsimp only
  refine wpAny_bind (PyProof.Rows.len_str hfit ?_)
  refine wpAny_bind (wpAny_of_eq (a := some ((x.length : Nat) : Int)) rfl ?_)
  try dsimp only
  refine wpAny_bind ?_
  show wpAny _ _ (newObj (.type "reversed") (.fields #[.str x t, rawInt ((x.length : Int) - 1)])) _ _ _
  refine wpAny_newObj_type ?_
  exact wpAny_pure h

theorem call_reversed_str {x : Str} {t : Tok} {Q : Value → Shared → Prop} (hfit : ¬ (x.length : Int) ≥ 2 ^ 63)
    (h : Q (.ref s.heap.objs.size) { s with heap := s.heap.push (rsObj x t ((x.length : Int) - 1)), toks := s.toks + 1 + 1 }) : wpAny (model prog w) A (call (.type "reversed") [.str x t]) Q E s := by
  refine callType_codes (Q₁ := fun obj s₁ => s₁.TypeIs obj "reversed" ∧ Q obj s₁) called_rt (F.typeCall_reversed_1 _) F.entry_object_init
    (code_reversed_str (A := A.in1) hfit ⟨⟨_, Heap.get?_push_size _ rfl, rfl⟩, h⟩) fun obj s₁ h₁ => ?_
  exact ⟨h₁.1, F.args_object_init_2 obj _, object_init_meets called_rt.init.lookup called_rt.made (by decide) prog w A.in1 _ s₁ ⟨h₁.1, rfl, h₁.2⟩⟩

theorem next_rs_item {it : Addr} {x : Str} {t : Tok} {i c : Nat} {Q : Option Value → Shared → Prop} (hit : IsRs s.heap it x t (i : Int)) (hx : x.cps[i]? = some c) (hsz : x.length ≤ sizeLine)
    (hQ : ∀ h' tk, IsRs h' it x t ((i : Int) - 1) → Heap.SameBut it s.heap h' → Q (some (.str ⟨#[c]⟩ (s.toks + 1))) { s with heap := h', toks := tk }) : wpAny (model prog w) A (pyNext (.ref it)) Q E s := by
  obtain ⟨o, ho, hc, hd⟩ := id hit
  have hi : i < x.length := (Array.getElem?_eq_some_iff.mp hx).1
  have hT : s.TypeIs (.str x t) "str" := typeIs_str s x t
  rw [sizeLine_eq] at hsz
  unfold pyNext
  refine wpAny_bind (wpAny_attempt (wpAny_callSpecial?_slot (name := Str.ofString "__next__") hit.typeIs slot_rt_next
    (wpAny_call_entry slot_rt_next hit.typeIs entry_rt_next ?_ (args_rt_next _))))
  unfold Builtin.«reversed.__next__»
  refine wpAny_bind (wpAny_of_eq (a := (Value.ref it, [])) rfl ?_)
  try dsimp only
  refine wpAny_bind (wpAny_field ho hd (x := .str x t) rfl ?_)
  try dsimp only
  refine wpAny_bind (wpAny_field ho hd (x := rawInt (i : Int)) rfl ?_)
  show wpAny _ _ (if (i : Int) < 0 then _ else _) _ _ s
  rw [if_neg (by omega)]
  try dsimp only
  refine wpAny_bind (wpAny_specialOf hT get_str ?_)
  try dsimp only
  try rw [if_neg (by decide)]
  try dsimp only
  refine wpAny_bind (wpAny_mkInt ?_)
  refine wpAny_bind (wpAny_attempt ?_)
  have fin : seqIndex? (i : Int) x.length = some i := seqIndex_of (by omega) (by omega)
  refine PyProof.Rows.getItem_str (s := { s with toks := s.toks + 1 }) (c := c) (by rw [decide_eq_false (by omega), decide_eq_false (by omega)]; rfl) (by rw [fin]; exact hx) ?_
  try dsimp only
  refine wpAny_bind (wpAny_field (s := { s with toks := s.toks + 1 + 1 }) ho hd (x := rawInt (i : Int)) rfl ?_)
  try dsimp only
  refine wpAny_bind (wpAny_setField (s := { s with toks := s.toks + 1 + 1 }) ho hd (by simp) ?_)
  first
  | refine wpAny_pure ⟨_, rfl, wpAny_pure (hQ _ _ ?_ (Heap.SameBut.update ..))⟩
  | refine wpAny_bind (wpAny_pure (wpAny_pure ⟨_, rfl, wpAny_pure (hQ _ _ ?_ (Heap.SameBut.update ..))⟩))
  exact ⟨_, Heap.get?_update_self _ ho (Obj.isFreed_of_fields (Obj.data_mapFields hd _)), (Obj.cls_mapFields ..).trans hc, by
    rw [Obj.data_mapFields hd]; simp⟩

theorem next_rs_end {it : Addr} {x : Str} {t : Tok} {Q : Option Value → Shared → Prop} (hh : A.handled = none) (hit : IsRs s.heap it x t (-1))
    (hQ : ∀ h', Heap.ExtBut it s.heap h' → Q none { s with heap := h' }) : wpAny (model prog w) A (pyNext (.ref it)) Q E s := by
  obtain ⟨o, ho, hc, hd⟩ := id hit
  unfold pyNext
  refine wpAny_bind (wpAny_attempt (wpAny_callSpecial?_slot (name := Str.ofString "__next__") hit.typeIs slot_rt_next
    (wpAny_call_entry slot_rt_next hit.typeIs entry_rt_next ?_ (args_rt_next _))))
  unfold Builtin.«reversed.__next__»
  refine wpAny_bind (wpAny_of_eq (a := (Value.ref it, [])) rfl ?_)
  try dsimp only
  refine wpAny_bind (wpAny_field ho hd (x := .str x t) rfl ?_)
  try dsimp only
  refine wpAny_bind (wpAny_field ho hd (x := rawInt (-1)) rfl ?_)
  show wpAny _ _ (if (-1 : Int) < 0 then _ else _) _ _ s
  rw [if_pos (by decide)]
  try dsimp only
  refine wpAny_bind (wpAny_rule ?_)
  refine wpAny_bind ?_
  wp_delta
  refine wpAny_bind (wpAny_setField ho hd (by simp) ?_)
  have ho2 := Heap.get?_update_self (Obj.mapFields (·.setIfInBounds 1 (rawInt (-1)))) ho (Obj.isFreed_of_fields (Obj.data_mapFields hd _))
  refine wpAny_setField (s := { s with heap := s.heap.update it (Obj.mapFields (·.setIfInBounds 1 (rawInt (-1)))) }) ho2 (Obj.data_mapFields hd _) (by simp) ?_
  try dsimp only
  first
  | show wpAny _ _ (newExc (.type "StopIteration") [] >>= _) _ _ _
  | (refine wpAny_bind ?_; show wpAny _ _ (newExc (.type "StopIteration") [] >>= _) _ _ _)
  | (refine wpAny_bind ?_; wp_delta; show wpAny _ _ (newExc (.type "StopIteration") [] >>= _) _ _ _)
  refine wpAny_bind ?_
  simp only [newExc, newTuple]
  refine wpAny_bind (wpAny_newObj_type ?_ (by size_fits))
  refine wpAny_bind (m := firstArgMember _ _) (wpAny_of_eq (a := Value.none) (by first | rfl | (simp only [firstArgMember]; rfl)) ?_)
  refine wpAny_newObj_type ?_ (by size_fits)
  simp only [raiseNew]
  refine wpAny_bind (wpAny_handled ?_)
  first | rw [show A.in1.handled = none from hh] | rw [hh]
  refine wpAny_bind (wpAny_pure (wpAny_throw ?_))
  refine wpAny_bind (wpAny_isInstance (T := "StopIteration") (b := true) ⟨_, Heap.get?_push_size _ rfl, rfl⟩ isSubtype_stop ?_)
  refine wpAny_pure (hQ _ ?_)
  refine ((?_ : Heap.ExtBut it s.heap _).push _).push _
  exact fun b ob hb e => (Heap.get?_update_other _ _ (Ne.symm hb)).trans ((Heap.get?_update_other _ _ (Ne.symm hb)).trans e)

theorem iter_rs {it : Addr} {x : Str} {t : Tok} {i : Int} {Q : Value → Shared → Prop} (hit : IsRs s.heap it x t i) (h : Q (.ref it) s) : wpAny (model prog w) A (pyIter (.ref it)) Q E s := by
  refine wpAny_pyIter_slot hit.typeIs slot_rt_iter (wpAny_call_entry slot_rt_iter hit.typeIs entry_rt_iter ?_ (args_rt_iter _))
  show wpAny _ _ (ret (.ref it)) _ _ s
  exact wpAny_pure ⟨_, rfl, "reversed", _, hit.typeIs, slot_rt_next.lookup, h⟩

theorem walks (hh : A.handled = none) (I : Addr) (x : Str) (t : Tok) (hsz : x.length ≤ sizeLine) :
    Walks prog w A I [I] [I] x.length (fun i v => ∃ c u, x.cps[x.length - 1 - i]? = some c ∧ v = Value.str ⟨#[c]⟩ u) (fun i h => i ≤ x.length ∧ IsRs h I x t ((x.length : Int) - 1 - (i : Int))) where
  sub := fun b hb => by simp at hb; simp [hb]
  frame := fun _ _ _ y hk => ⟨y.1, y.2.at fun o e => hk I (by simp) o e⟩
  item := fun i s Q E hi y hQ => by
    have e : (x.length : Int) - 1 - (i : Int) = ((x.length - 1 - i : Nat) : Int) := by omega
    have hit := y.2
    rw [e] at hit
    have hlt : x.length - 1 - i < x.cps.size := by show x.length - 1 - i < x.length; omega
    have hx : x.cps[x.length - 1 - i]? = some (x.cps[x.length - 1 - i]'hlt) := Array.getElem?_eq_getElem hlt
    refine next_rs_item hit hx hsz fun h' tk hit' hs' => ?_
    have e2 : ((x.length - 1 - i : Nat) : Int) - 1 = (x.length : Int) - 1 - ((i + 1 : Nat) : Int) := by omega
    rw [e2] at hit'
    exact hQ _ h' tk ⟨_, _, hx, rfl⟩ ⟨hi, hit'⟩ fun b o hb eo => hs'.extBut b o (fun h => hb (by simp [h])) eo
  done := fun s Q E y hQ => by
    have e : (x.length : Int) - 1 - (x.length : Int) = -1 := by omega
    have hit := y.2
    rw [e] at hit
    exact next_rs_end hh hit fun h' he' => hQ h' s.toks fun b o hb eo => he' b o (fun h => hb (by simp [h])) eo
  self := fun _ _ _ _ y hQ => iter_rs y.2 hQ
theorem hint {it : Addr} {x : Str} {t : Tok} {Q : Value → Shared → Prop} (hit : IsRs s.heap it x t ((x.length : Int) - 1)) (hfit : (x.length : Int) < 2 ^ 63)
    (hQ : ∀ tk n, Q (.int (x.length : Int) n) { s with toks := tk }) : wpAny (model prog w) A (call (.builtin "reversed.__length_hint__") [.ref it]) Q E s := by
  obtain ⟨o, ho, hc, hd⟩ := id hit
  refine wpAny_call_entry slot_hint hit.typeIs entry_hint ?_ (args_hint _)
  unfold Builtin.«reversed.__length_hint__»
  refine wpAny_bind (wpAny_of_eq (a := Value.ref it) rfl ?_)
  refine wpAny_bind (wpAny_field ho hd (x := .str x t) rfl ?_)
  try dsimp only
  rw [if_neg (by rw [show (Value.str x t == Value.none) = false from rfl]; exact Bool.false_ne_true)]
  refine wpAny_bind (PyProof.Rows.len_str (by omega) ?_)
  refine wpAny_bind (wpAny_of_eq (a := some ((x.length : Nat) : Int)) rfl ?_)
  try dsimp only
  refine wpAny_bind (wpAny_field (s := { s with toks := s.toks + 1 + 1 }) ho hd (x := rawInt ((x.length : Int) - 1)) rfl ?_)
  show wpAny _ _ (if (x.length : Int) < (x.length : Int) - 1 + 1 then _ else _) _ _ _
  rw [if_neg (by omega)]
  unfold retInt
  refine wpAny_bind (wpAny_mkInt ?_)
  have e : (x.length : Int) - 1 + 1 = (x.length : Int) := by omega
  rw [e]
  exact wpAny_pure ⟨_, rfl, hQ _ _⟩
theorem collect_rs {it : Addr} {x : Str} {t : Tok} {Q : List Value → Shared → Prop} (hh : A.handled = none) (hit : IsRs s.heap it x t ((x.length : Int) - 1)) (hn : x.length ≤ sizeLine)
    (hQ : ∀ (h' : Heap) (tk : Nat) (acc : Array Value), (∀ b o, b ≠ it → s.heap.get? b = some o → h'.get? b = some o) → ItemsOf (fun i v => ∃ c u, x.cps[x.length - 1 - i]? = some c ∧ v = Value.str ⟨#[c]⟩ u) acc x.length → Q acc.toList { s with heap := h', toks := tk }) :
    wpAny (model prog w) A (collect (.ref it)) Q E s := by
  have W := (walks (prog := prog) (w := w) (A := A.in1) hh it x t hn).toS
  obtain ⟨oi, hoi, _⟩ := id hit
  have hSi : s.heap.objs.size ≠ it := Nat.ne_of_gt (Heap.lt_size hoi)
  have hSf : s.heap.objs.size ∉ [it] := by simp only [List.mem_cons, List.not_mem_nil, or_false]; exact hSi
  unfold collect
  refine wpAny_bind (wpAny_runValue (codeAny_builtin F.entry_proto_collect ?_))
  rw [Around.under_plainId F.plain_proto_collect _]
  show wpAny _ A.in1 (newList [] >>= fun l' => again (.builtin "list.__iadd__" ⟨[l', .ref it], []⟩)) _ _ s
  refine wpAny_bind (wpAny_newObj_type ?_)
  refine wpAny_pure ⟨plainId_quiet F.plain_list_iadd _, codeAny_builtin F.entry_list_iadd ?_⟩
  rw [Around.under_plainId F.plain_list_iadd _]
  have hS₁ : (s.heap.push { cls := .type "list", data := .seq ([] : List Value).toArray }).get? s.heap.objs.size = some { cls := .type "list", data := .seq ([] : List Value).toArray } := Heap.get?_push_size _ rfl
  have hit1 : IsRs (s.heap.push { cls := .type "list", data := .seq ([] : List Value).toArray }) it x t ((x.length : Int) - 1) := hit.at fun o e => Heap.get?_push_of_some _ e
  have hT : ({ s with heap := s.heap.push { cls := .type "list", data := .seq ([] : List Value).toArray } } : Shared).TypeIs (.ref it) "reversed" := IsRs.typeIs (s := { s with heap := s.heap.push { cls := .type "list", data := .seq ([] : List Value).toArray } }) hit1
  have h1 : Builtin.List.listSameRef (.ref s.heap.objs.size) (.ref it) = false := by simp [Builtin.List.listSameRef, hSi]
  have e0 : ((x.length : Nat) : Int) - 1 - ((0 : Nat) : Int) = (x.length : Int) - 1 := by omega
  show wpAny _ A.in1 (Builtin.List.listExtendWith (.ref s.heap.objs.size) (.ref it) (.ref s.heap.objs.size)) _ _ _
  unfold Builtin.List.listExtendWith
  refine wpAny_bind (wpAny_typeOf hT ?_)
  rw [if_neg (by rw [h1]; decide)]
  refine wpAny_bind (iter_rs (s := { s with heap := s.heap.push { cls := .type "list", data := .seq ([] : List Value).toArray } }) hit1 ?_)
  refine wpAny_bind (wpAny_holding ?_)
  unfold Builtin.List.listLengthHint
  refine wpAny_bind (wpAny_specialOf hT nolen ?_)
  show wpAny _ A.in1 (specialOf (Value.ref it) (Str.ofString "__length_hint__") >>= _) _ _ _
  refine wpAny_bind (wpAny_specialOf hT slot_hint.lookup ?_)
  generalize hid : ("reversed.__length_hint__" : String) = id0
  wp_delta
  rw [show splitId id0 = some ("reversed", "__length_hint__") from by subst hid; decide +kernel]
  subst hid
  refine wpAny_bind (wpAny_isInstance (b := true) hT (by rw [isSubtype_type]; kernel_rfl) ?_)
  rw [if_neg (by decide)]
  dsimp only
  rw [if_neg (by decide +kernel)]
  refine wpAny_bind (wpAny_rule ?_)
  refine wpAny_bind (wpAny_of_eq (slot_hint.bind _) ?_)
  dsimp only
  have hfit : (x.length : Int) < 2 ^ 63 := by rw [sizeLine_eq] at hn; omega
  refine wpAny_bind (wpAny_attempt (hint (s := { s with heap := s.heap.push { cls := .type "list", data := .seq ([] : List Value).toArray } }) hit1 hfit fun tk n => ?_))
  dsimp only
  refine wpAny_bind ?_
  rw [asInt_int]
  refine wpAny_pure ?_
  dsimp only
  rw [if_neg (by rw [show Builtin.List.listFitsIndex (x.length : Int) = true from by unfold Builtin.List.listFitsIndex; rw [decide_eq_true (by omega), decide_eq_true (by omega)]; rfl]; decide)]
  try dsimp only
  rw [if_neg (by omega)]
  try dsimp only
  rw [if_neg (by unfold Builtin.List.listTooLong; rw [decide_eq_false (by omega)]; decide)]
  try dsimp only
  refine wpAny_pure ?_
  by_cases h0 : x.length = 0
  · rw [if_neg (by rw [show ((x.length : Int) != 0) = false from by rw [h0]; rfl, Bool.false_or]; decide +kernel)]
    refine wpAny_pure ⟨plainId_quiet F.plain_extend_loop _, codeAny_extend_loopS W hn _ hSf _ x.length 0 _ _ _ rfl (Nat.zero_le _) ⟨Nat.zero_le _, by rw [e0]; exact hit1⟩ hS₁ (ItemsOf.nil _) fun s' acc' c' hm hS' hacc => ?_⟩
    show wpAny _ A (load s.heap.objs.size >>= _) _ _ s'
    refine wpAny_bind (wpAny_load hS' ?_)
    refine wpAny_pure ?_
    rw [Moved.eq_with hm]
    refine hQ s'.heap s'.toks acc' (fun b o hb e => hm.heap b o (fun hmem => ?_) (Heap.get?_push_of_some _ e)) hacc
    rcases List.mem_cons.mp hmem with e' | hmem
    · exact absurd (Heap.lt_size e) (by rw [e']; exact Nat.lt_irrefl _)
    · exact hb (List.mem_singleton.mp hmem)
  · rw [if_pos (by rw [show ((x.length : Int) != 0) = true from bne_iff_ne.mpr (by omega), Bool.true_or])]
    refine wpAny_bind (wpAny_rule ?_)
    refine wpAny_bind ?_
    show wpAny _ A.in1 (updateSeq s.heap.objs.size (·.push .none) >>= fun _ => updateSeq s.heap.objs.size (·.pop)) _ _ _
    refine wpAny_bind (wpAny_updateSeq hS₁ rfl ?_)
    have hS₂ := Heap.get?_update_self (Obj.mapSeq (·.push Value.none)) hS₁ rfl
    refine wpAny_updateSeq hS₂ rfl ?_
    have hS₃ := Heap.get?_update_self (Obj.mapSeq (·.pop)) hS₂ rfl
    have oth : ∀ b o, b ≠ s.heap.objs.size → (s.heap.push { cls := .type "list", data := .seq ([] : List Value).toArray }).get? b = some o →
        (((s.heap.push { cls := .type "list", data := .seq ([] : List Value).toArray }).update s.heap.objs.size (Obj.mapSeq (·.push Value.none))).update s.heap.objs.size (Obj.mapSeq (·.pop))).get? b = some o :=
      fun b o hb e => (Heap.get?_update_other _ _ (Ne.symm hb)).trans ((Heap.get?_update_other _ _ (Ne.symm hb)).trans e)
    refine wpAny_pure ⟨plainId_quiet F.plain_extend_loop _, codeAny_extend_loopS W hn _ hSf _ x.length 0 _ _ _ rfl (Nat.zero_le _) ⟨Nat.zero_le _, by rw [e0]; exact hit1.at fun o e => oth _ o (Ne.symm hSi) e⟩ hS₃ (ItemsOf.nil _) fun s' acc' c' hm hS' hacc => ?_⟩
    show wpAny _ A (load s.heap.objs.size >>= _) _ _ s'
    refine wpAny_bind (wpAny_load hS' ?_)
    refine wpAny_pure ?_
    rw [Moved.eq_with hm]
    refine hQ s'.heap s'.toks acc' (fun b o hb e => hm.heap b o (fun hmem => ?_) (oth b o (fun z => absurd (Heap.lt_size e) (by rw [z]; exact Nat.lt_irrefl _)) (Heap.get?_push_of_some _ e))) hacc
    rcases List.mem_cons.mp hmem with e' | hmem
    · exact absurd (Heap.lt_size e) (by rw [e']; exact Nat.lt_irrefl _)
    · exact hb (List.mem_singleton.mp hmem)
end
end Rs

set_option Elab.async false
set_option linter.all false
set_option maxRecDepth 100000
set_option maxHeartbeats 2000000
/-! Dn52: ''.join(reversed(text)) -/
namespace Rs
open PySem PySem.Spec PyProof.Rows RT Rv Builtin Builtin.Str
/-- the signs from the last on -/
def backS (x : Str) : List Str := x.cps.toList.reverse.map fun c => (⟨#[c]⟩ : Str)
section
variable {prog : Program} {w : World} {A : Around} {E : Value → Shared → Prop} {s : Shared}
theorem back_of {x : Str} {l : List (Str × Tok)} {acc : Array Value} (hl : strValues l = acc.toList) (h : ItemsOf (fun i v => ∃ c u, x.cps[x.length - 1 - i]? = some c ∧ v = Value.str ⟨#[c]⟩ u) acc x.length) : l.map (·.1) = backS x := by
  have hsz : acc.toList.length = x.length := by rw [Array.length_toList]; exact h.1
  have hll : l.length = x.length := by
    rw [← hl] at hsz
    unfold strValues at hsz
    rwa [List.length_map] at hsz
  refine List.ext_getElem? fun j => ?_
  unfold backS
  rw [List.getElem?_map, List.getElem?_map]
  by_cases hj : j < x.length
  · have hj2 : j < acc.toList.length := by omega
    have e1 : acc.toList[j]? = some (acc.toList[j]'hj2) := List.getElem?_eq_getElem hj2
    obtain ⟨c, u, hc, hv⟩ := h.2 j (acc.toList[j]'hj2) (by rw [← Array.getElem?_toList]; exact e1)
    rw [hv, ← hl] at e1
    unfold strValues at e1
    rw [List.getElem?_map] at e1
    have hxl : x.cps.toList.length = x.length := Array.length_toList ..
    have hc2 : x.cps.toList[x.length - 1 - j]? = some c := by rw [Array.getElem?_toList]; exact hc
    rw [List.getElem?_reverse (by rw [hxl]; exact hj), hxl, hc2]
    cases hq : l[j]? with
    | none => rw [hq] at e1; cases e1
    | some p =>
      rw [hq] at e1
      have e1 := Option.some.inj e1
      injection e1 with e2 _
      show some p.1 = some (⟨#[c]⟩ : Str)
      rw [e2]
  · rw [List.getElem?_eq_none (by omega), List.getElem?_eq_none (by rw [List.length_reverse, Array.length_toList]; show x.cps.size ≤ j; have : x.cps.size = x.length := rfl; omega)]; rfl
theorem joinRs {sep x : Str} {ts t : Tok} {it : Addr} {Q : Value → Shared → Prop} (hh : A.handled = none) (hit : IsRs s.heap it x t ((x.length : Int) - 1)) (hn : x.length ≤ sizeLine) (hok : JoinOk sep (backS x) = true)
    (hq : ∀ (h' : Heap) (t' : Tok) (k : Nat), (∀ b o, b ≠ it → s.heap.get? b = some o → h'.get? b = some o) → Q (.str (Txt.join sep (backS x)) t') { s with heap := h', toks := k }) :
    wpAny (model prog w) A (call (.builtin "str.join") [.str sep ts, .ref it]) Q E s := by
  refine wpAny_call (codeAny_call_builtin F.slot_str_join.plain F.entry_str_join (F.slot_str_join.check _ _ _ _ _ _ _ _ (typeIs_str _ _ _) (F.args_str_join_2 _ _) ?_))
  rw [join_tree_other]
  refine wpAny_bind (wpAny_typeOf hit.typeIs ?_)
  show wpAny _ A.in1 ((pyIter (.ref it)).tryCatch _ >>= fun it => collect it >>= fun items => joinTail sep items) _ _ s
  refine wpAny_bind (wpAny_tryCatch (iter_rs hit ?_))
  refine wpAny_bind (collect_rs (A := A.in1) hh hit hn fun h' tk acc keep hacc => ?_)
  obtain ⟨l, hl⟩ := exists_strValues acc.toList fun v hv => by
    obtain ⟨j, hj, rfl⟩ := Array.mem_iff_getElem.mp (Array.mem_toList_iff.mp hv)
    obtain ⟨c, u, _, e⟩ := hacc.2 j _ (Array.getElem?_eq_getElem hj)
    exact ⟨_, u, e⟩
  have ht := back_of hl hacc
  rw [← hl]
  have hok' : JoinOk sep (l.map (·.1)) = true := by rw [ht]; exact hok
  unfold JoinOk at hok'
  rw [Bool.not_eq_true'] at hok'
  have g : Gives (joinTail sep (strValues l)) (joinMade sep l) := by
    have g0 := gives_joinTail sep l hok'
    cases l with
    | nil => exact g0
    | cons p r => cases r with
      | nil => exact g0
      | cons q r' => exact g0
  exact g prog w A (wants Q E) { s with heap := h', toks := tk } (post_join l ⟨joinFit_length hok', fun t' k => by rw [ht]; exact hq h' t' k keep⟩)
end
open L2
def tJoinRev (to te : TE) : TE := fun σ H Q => to σ H fun x H1 => ∃ a : Str, x = .str a ∧ te σ H1 fun y H2 => ∃ b : Str, y = .str b ∧ b.length ≤ 100000 ∧ b.length + b.length * a.length ≤ 16777216 ∧ Q (.str (Txt.join a (backS b))) H2
section
variable {X : Cx} {o e : Expr} {to te : TE}
theorem pe_joinRevS {apos pos p2 pos2 : Pos} (hc : X.calm = true) (hg2 : Gl X "reversed") (hm2 : X.mg "reversed" = none) (ho : PE X o to) (he : PE X e te)
    (hs : starEach [.Call (.Name "reversed" p2) [e] [] pos2] X.env = [(false, eval (.Call (.Name "reversed" p2) [e] [] pos2) X.env)] := by rfl) (hs2 : starEach [e] X.env = (false, eval e X.env) :: starEach [] X.env := by rfl)
    (hbase : attributeBase o "join" X.env (eval o X.env) = eval o X.env := by rfl) (hline : (apos.endLine == pos.line) = true := by rfl) :
    PE X (.Call (.Attribute o "join" apos) [.Call (.Name "reversed" p2) [e] [] pos2] [] pos) (tJoinRev to te) := by
  refine ⟨fun pins s σ H Q I h => ?_⟩
  refine PySem.Call_method1 hbase hs hline (thn (ho.run pins s σ H _ I h) fun v s1 ⟨x, H1, I1, r1, q1⟩ => ?_)
  obtain ⟨a, ex, q1⟩ := q1
  subst ex
  obtain ⟨t, rfl⟩ := _root_.id r1
  refine ⟨"str", _, PySem.F.plainAttrs_str, PySem.F.slot_str_join, PySem.F.type_str_join, typeIs_str _ _ _, (fun _ e => nomatch e), Calls.callWith_builtin rfl (Calls.evalArgs_plain (Calls.spliced_cons ?_))⟩
  refine Call_ (ld_blt I1 hg2 hm2 PyProof.Rows.boot_reversed (PyProof.Rows.callWith_type1 (args_cons (thn (he.run pins s1 σ H1 _ I1 q1) fun u s2 ⟨y, H2, I2, r2, q2⟩ => args_nil ?_) hs2) hs2 rfl))
  obtain ⟨b, ey, hb, hz, q⟩ := q2
  subst ey
  obtain ⟨u, rfl⟩ := _root_.id r2
  have hn : b.length ≤ sizeLine := by rw [sizeLine_eq]; omega
  refine call_reversed_str (by omega) (Calls.spliced_nil ?_)
  have k0 : ∀ c ob, s2.heap.get? c = some ob → (s2.heap.push (rsObj b u ((b.length : Int) - 1))).get? c = some ob := fun c ob e => Heap.get?_push_of_some _ e
  have I3 : Inv X pins σ H2 { s2 with heap := s2.heap.push (rsObj b u ((b.length : Int) - 1)), toks := s2.toks + 1 + 1 } := I2.kept (t' := s2.toks + 1 + 1) k0
  obtain ⟨f0, f1, f2, f3, f4, f5⟩ := I2.fpOk (H' := H2) (b := s2.heap.objs.size) (Nat.le_refl _) (I2.hok.fresh (Nat.le_refl _))
  refine joinRs (s := { s2 with heap := s2.heap.push (rsObj b u ((b.length : Int) - 1)), toks := s2.toks + 1 + 1 }) (I2.ok.hd hc) ⟨_, Heap.get?_push_size _ rfl, rfl, rfl⟩ hn ?_ fun h' t' k keep => ?_
  · have e1 : ∀ y ∈ backS b, y.length ≤ 1 := fun y hy => by
      unfold backS at hy
      obtain ⟨c, _, rfl⟩ := List.mem_map.mp hy
      exact Nat.le_refl 1
    have e2 : (backS b).length = b.length := by
      unfold backS
      rw [List.length_map, List.length_reverse, Array.length_toList]; rfl
    unfold JoinOk
    rw [StrLaws.joinFits (B := 1) e1 (by rw [e2, Nat.mul_one]; exact hz)]; rfl
  · have I4 : Inv X pins σ H2 { s2 with heap := h', toks := k } := I3.turned (t' := k) (fun c ob hc' e => keep c ob hc' e) f0 f1 f3 f4 f5
    exact ⟨.str _, H2, I4, ⟨t', rfl⟩, q⟩
end
end Rs
namespace Dn
open PySem PySem.Spec PyProof.Rows L2 TL
section
variable {X : Cx} {a e : Expr} {pos p2 pos2 apos : Pos} {Γ Γ1 Γ2 : List Slot} {s x : List Nat}
/-- sep.join(reversed(x)) -/
theorem de_joinRevS (hz : x.length ≤ 100000) (hzs : s.length ≤ 100) (hm2 : X.mg "reversed" = none) (ha : DE X a Γ .str s Γ1) (hb : DE X e Γ1 .str x Γ2) (hc : X.calm = true := by rfl) (hg2 : Gl X "reversed" := by rfl)
    (hs : starEach [.Call (.Name "reversed" p2) [e] [] pos2] X.env = [(false, eval (.Call (.Name "reversed" p2) [e] [] pos2) X.env)] := by rfl) (hs2 : starEach [e] X.env = (false, eval e X.env) :: starEach [] X.env := by rfl)
    (hbase : attributeBase a "join" X.env (eval a X.env) = eval a X.env := by rfl) (hline : (apos.endLine == pos.line) = true := by rfl) :
    DE X (.Call (.Attribute a "join" apos) [.Call (.Name "reversed" p2) [e] [] pos2] [] pos) Γ .str (joinS s (chars x).reverse) Γ2 := fun F G σ H W Q q =>
  wpe_of (Rs.pe_joinRevS hc hg2 hm2 pe_wp pe_wp hs hs2 hbase hline) (ha F G σ H W _ fun v G1 H1 s1 W1 r1 => ⟨⟨s.toArray⟩, r1, hb F G1 σ H1 W1 _ fun v2 G2 H2 s2 W2 r2 => by
    have hm : x.length * s.length ≤ 100000 * 100 := Nat.mul_le_mul hz hzs
    refine ⟨⟨x.toArray⟩, r2, by rw [len_mk]; exact hz, by rw [len_mk, len_mk]; omega, q _ G2 H2 (s1.trans s2) W2 ?_⟩
    show V.str _ = vS _
    unfold vS joinS
    congr 1
    apply ext_tl
    rw [join_eq, tl_join]
    congr 1
    unfold Rs.backS chars
    rw [List.map_map, ← List.map_reverse]
    rfl⟩)
end
end Dn

set_option Elab.async false
set_option linter.all false
set_option maxRecDepth 100000
set_option maxHeartbeats 2000000
/-! Dn53: zip of two pairs -/
namespace Dn
open PySem PySem.Spec PyProof.Rows L2 TL
section
variable {X : Cx} {Γ Γ1 Γ2 : List Slot} {a b e tg : Expr} {pos p : Pos} {t u : Ty} {g : TG} {tgs : List Nat}
theorem di_zipP2 {elts : List Expr} {kk : Nat} {tpos : Pos} {x : (Ty.p2 t t).den} {y : (Ty.p2 u u).den} {B : t.den × u.den → List Slot → List Slot} (hm : X.mg "zip" = none) (ha : DE X a Γ (.p2 t t) x Γ1) (hb : DE X b Γ1 (.p2 u u) y Γ2) (hg : EvG X.K g (.p2 t u) B tgs) (hgl : Gl X "zip" := by rfl)
    (hs : starEach [a, b] X.env = (false, eval a X.env) :: starEach [b] X.env := by rfl) (hs2 : starEach [b] X.env = (false, eval b X.env) :: starEach [] X.env := by rfl) (hpl : (backTo pos (starEach [b] X.env)).any (·.1) = false := by rfl) :
    DI X (.Tuple elts kk tpos) (.Call (.Name "zip" p) [a, b] [] pos) g Γ [(x.1, y.1), (x.2, y.2)] B tgs Γ2 := fun F G σ H W R q =>
  wpi_of (RZ.pi_zipA hgl hm (pa_cons pe_wp (pa_cons pe_wp pa_nil hs2) hs) hs hpl) (ha F G σ H W _ fun v G1 H1 s1 W1 r1 => hb F G1 σ H1 W1 _ fun w G2 H2 s2 W2 r2 => by
    obtain ⟨p1, a1, a2, rfl, h1, m1, m2⟩ := r1
    obtain ⟨p2, b1, b2, rfl, h3, m3, m4⟩ := r2
    have h1 := s2 _ _ h1
    have h2 : RepL X.K t G2 [a1, a2] [x.1, x.2] := .cons (rep_mono s2 t a1 x.1 m1) (.cons (rep_mono s2 t a2 x.2 m2) .nil)
    have h4 : RepL X.K u G2 [b1, b2] [y.1, y.2] := .cons m3 (.cons m4 .nil)
    have ql : ∀ {H' : Hp}, Same G2 H' → SqT X.K H' p1 [a1, a2] ∧ SqT X.K H' p2 [b1, b2] := fun s => ⟨tT (s _ _ h1), tT (s _ _ h3)⟩
    obtain ⟨xs, ex⟩ : ∃ xs, xs = [x.1, x.2] := ⟨_, rfl⟩
    obtain ⟨ys, ey⟩ : ∃ ys, ys = [y.1, y.2] := ⟨_, rfl⟩
    obtain ⟨vs, ev⟩ : ∃ vs, vs = [a1, a2] := ⟨_, rfl⟩
    obtain ⟨ws, ew⟩ : ∃ ws, ws = [b1, b2] := ⟨_, rfl⟩
    have ez : [(x.1, y.1), (x.2, y.2)] = List.zip xs ys := by rw [ex, ey]; rfl
    rw [ez] at q
    rw [← ev, ← ex] at h2
    rw [← ew, ← ey] at h4
    rw [← ev, ← ew] at ql
    have e1 := pair_len h2
    have e2 := pair_len h4
    refine ⟨p1, p2, vs, ws, rfl, .inr ⟨(ql W2.gh).1, (ql W2.gh).2, q _ G2 H2 (s1.trans s2) W2 ⟨fun i G3 H3 s3 s4 hi => ?_, fun G3 H3 s3 s4 => ⟨vs, ws, (ql (s3.trans s4)).1, (ql (s3.trans s4)).2, ?_⟩, fun F i z G3 σ3 H3 Γ3 v H4 Q s3 W3 hy y' k => ?_⟩⟩⟩
    · rw [zip_len] at hi
      exact ⟨vs, ws, vs[i]'(by omega), ws[i]'(by omega), (ql (s3.trans s4)).1, (ql (s3.trans s4)).2, List.getElem?_eq_getElem (by omega), List.getElem?_eq_getElem (by omega)⟩
    · rw [zip_len]; omega
    · obtain ⟨T, x1, x2, rfl, nT, rfl, f1, f2⟩ := y'
      have f1 := f1 vs (ql (s3.trans W3.gh)).1
      have f2 := f2 ws (ql (s3.trans W3.gh)).2
      obtain ⟨g1, g2⟩ := zip_get hy
      obtain ⟨v1, e4, e5⟩ := pair_get h2 g1
      rw [f1] at e4; cases e4
      obtain ⟨v2, e6, e7⟩ := pair_get h4 g2
      rw [f2] at e6; cases e6
      have sm := same_upd (o := .tup [x1, x2]) (W3.gn nT)
      exact hg F _ σ3 _ Γ3 (.ref T) z (W3.newG nT) ⟨T, x1, x2, rfl, upd_same, rep_mono (s3.trans sm) t x1 z.1 e5, rep_mono (s3.trans sm) u x2 z.2 e7⟩ Q fun σ' a' W4 => k _ σ' _ sm a' W4)
end
end Dn

set_option Elab.async false
set_option linter.all false
set_option maxRecDepth 100000
set_option maxHeartbeats 2000000
/-! Dn54: for c in reversed(a text), for i, c in enumerate(a text) -/
namespace Rs
open PySem PySem.Spec PyProof.Rows L2
theorem letGo_str {tg : Expr} {r : Addr} {x : Str} {t : Tok} : letOwnedTupleGo tg (.ref r) (.str x t) = pure () := by
  cases tg <;> rfl
/-- a text's signs from its end -/
def ItR (x : Str) : It := ⟨fun i _ => i < x.length, fun i H v H' => H' = H ∧ ∃ c, x.cps[x.length - 1 - i]? = some c ∧ v = .str ⟨#[c]⟩, fun i _ => i = x.length⟩
theorem turn {P : Program} {w : World} {K : PySem.W.Frag} {tg : Expr} (it : Addr) (x : Str) (t : Tok) (hsz : x.length ≤ sizeLine) :
    Turn P w K tg (ItR x) [it] it (fun i h => i ≤ x.length ∧ IsRs h it x t ((x.length : Int) - 1 - (i : Int))) where
  mem := by simp
  obj := fun i h st c hc => by
    rw [List.mem_singleton.mp hc]
    obtain ⟨_, o, ho, hcl, hd⟩ := st
    exact ⟨o, ho, fun v q => by rw [hd] at q; cases q⟩
  keep := fun i h h' st k => ⟨st.1, st.2.at fun o e => k it (by simp) o e⟩
  item := by
    intro X hP hw hK hc i pins s σ H E I hf st hg
    subst hP hw hK
    have hi : i < x.length := hg
    have e : (x.length : Int) - 1 - (i : Int) = ((x.length - 1 - i : Nat) : Int) := by omega
    have hit := st.2
    rw [e] at hit
    have hlt : x.length - 1 - i < x.cps.size := by show x.length - 1 - i < x.length; omega
    have hx : x.cps[x.length - 1 - i]? = some (x.cps[x.length - 1 - i]'hlt) := Array.getElem?_eq_getElem hlt
    obtain ⟨f0, f1, f2, f3, f4, f5⟩ := hf it (by simp)
    refine next_rs_item hit hx hsz fun h' tk hit' hs' => ⟨_, rfl, ?_⟩
    have e2 : ((x.length - 1 - i : Nat) : Int) - 1 = (x.length : Int) - 1 - ((i + 1 : Nat) : Int) := by omega
    rw [e2] at hit'
    rw [letGo_str]
    refine wpAny_pure ⟨V.str ⟨#[x.cps[x.length - 1 - i]'hlt]⟩, H, I.turned (t' := _) (fun b o hb q => hs'.extBut b o hb q) f0 f1 f3 f4 f5, ⟨_, rfl⟩, ⟨rfl, _, hx, rfl⟩, ⟨hi, hit'⟩, fun b hb => (hf b hb).1⟩
  done := by
    intro X hP hw hK hc i pins s σ H E I hf st hg
    subst hP hw hK
    have hi : i = x.length := hg
    have e : (x.length : Int) - 1 - (i : Int) = -1 := by omega
    have hit := st.2
    rw [e] at hit
    obtain ⟨f0, f1, f2, f3, f4, f5⟩ := hf it (by simp)
    exact next_rs_end (I.ok.hd hc) hit fun h' he' => ⟨rfl, I.turned (t' := s.toks) (fun b o hb q => he' b o hb q) f0 f1 f3 f4 f5⟩
  self := fun A i s Q E st h => iter_rs st.2 h
def iRevS (te : TE) : TI := fun σ H R => te σ H fun v H1 => ∃ x : Str, v = .str x ∧ x.length ≤ sizeLine ∧ R (ItR x) H1
theorem pi_revS {X : Cx} {tg e : Expr} {te : TE} {p pos : Pos} (hg : Gl X "reversed") (hm : X.mg "reversed" = none) (he : PE X e te)
    (hs : starEach [e] X.env = (false, eval e X.env) :: starEach [] X.env := by rfl) : PI X tg (.Call (.Name "reversed" p) [e] [] pos) (iRevS te) := by
  refine ⟨fun pins s σ H R I h => ?_⟩
  refine Call_ (ld_blt I hg hm PyProof.Rows.boot_reversed (PyProof.Rows.callWith_type1 (args_cons (thn (he.run pins s σ H _ I h) fun u s1 ⟨v, H1, I1, r1, q1⟩ => args_nil ?_) hs) hs rfl))
  obtain ⟨x, ev, hn, q⟩ := q1
  subst ev
  obtain ⟨u, rfl⟩ := _root_.id r1
  refine call_reversed_str (by rw [sizeLine_eq] at hn; omega) ?_
  have k0 : ∀ c ob, s1.heap.get? c = some ob → (s1.heap.push (rsObj x u ((x.length : Int) - 1))).get? c = some ob := fun c ob e => Heap.get?_push_of_some _ e
  have I2 : Inv X pins σ H1 { s1 with heap := s1.heap.push (rsObj x u ((x.length : Int) - 1)), toks := s1.toks + 1 + 1 } := I1.kept (t' := s1.toks + 1 + 1) k0
  have hit : IsRs (s1.heap.push (rsObj x u ((x.length : Int) - 1))) s1.heap.objs.size x u ((x.length : Int) - 1 - ((0 : Nat) : Int)) := by
    rw [show (x.length : Int) - 1 - ((0 : Nat) : Int) = (x.length : Int) - 1 by omega]
    exact ⟨_, Heap.get?_push_size _ rfl, rfl, rfl⟩
  refine iter_rs (s := { s1 with heap := s1.heap.push (rsObj x u ((x.length : Int) - 1)), toks := s1.toks + 1 + 1 }) hit ?_
  exact ⟨_, [s1.heap.objs.size], _, _, H1, rfl, I2, turn s1.heap.objs.size x u hn, ⟨Nat.zero_le _, hit⟩, fun b hb => by
    rw [List.mem_singleton.mp hb]
    exact I1.fpOk (H' := H1) (Nat.le_refl _) (I1.hok.fresh (Nat.le_refl _)), q⟩
end Rs
namespace Es
open PySem PySem.Spec PyProof.Rows L2
/-- the text x, each sign in a new pair -/
def ItE (x : Str) : It :=
  ⟨fun i _ => i < x.cps.size, fun i H v H' => ∃ T c, v = .ref T ∧ H T = none ∧ H' = upd H T (.tup [.int (i : Nat), .str ⟨#[c]⟩]) ∧ x.cps[i]? = some c, fun i _ => i = x.cps.size⟩
theorem turn {P : Program} {w : World} {K : PySem.W.Frag} {elts : List Expr} {kk : Nat} {tpos : Pos} (e it : Addr) (x : Str) (t : Tok) :
    Turn P w K (.Tuple elts kk tpos) (ItE x) [e, it] e (fun i h => (∃ old, IsEnum h e it ((i : Nat) : Int) old) ∧ h.IsStrIter it (strIterType x) x t i ∧ e ≠ it) where
  mem := by simp
  obj := fun i h st b hb => by
    obtain ⟨⟨old, he⟩, ⟨o, ho, hc, hd⟩, _⟩ := st
    have e' : b = e ∨ b = it := by simpa using hb
    rcases e' with z | z
    · rw [z]; exact ⟨_, he, fun v q => nomatch q⟩
    · rw [z]; exact ⟨o, ho, fun v q => by rw [hd] at q; cases q⟩
  keep := fun i h h' st k => let ⟨⟨old, he⟩, ⟨o, ho, r⟩, hne⟩ := st; ⟨⟨old, k e (by simp) _ he⟩, ⟨o, k it (by simp) o ho, r⟩, hne⟩
  item := by
    intro X hP hw hK hc i pins s σ H E I hf st hg
    subst hP hw hK
    obtain ⟨⟨old, he⟩, hit, hne⟩ := st
    have hlt : i < x.cps.size := hg
    have hel : e < s.heap.objs.size := Heap.lt_size he
    have hil : it < s.heap.objs.size := by obtain ⟨_, q, _⟩ := hit; exact Heap.lt_size q
    refine wpAny_pyNext_enum_itemD (Draws.text (prog := X.prog) (w := X.w) (A := X.A.in1) (I.ok.hd hc) it x t) he hit hlt hne (by simp [hne]) fun x' h' tk hx' ho st' hT hsz hk => ?_
    obtain ⟨c, u, hc1, rfl⟩ := hx'
    refine ⟨_, rfl, wpAny_letOwnedTupleGo_enum (s := { s with heap := h', toks := tk + 1 }) ho fun h'' he' sb => ?_⟩
    have hT2 : h''.get? s.heap.objs.size = some { cls := .type "tuple", data := .seq #[.int i tk, .str ⟨#[c]⟩ u] } := (sb.2 _ (Nat.ne_of_gt hel)).trans hT
    have new : ObjOk X.prog X.w (upd H s.heap.objs.size (.tup [.int (i : Nat), .str ⟨#[c]⟩])) h'' s.heap.objs.size (.tup [.int (i : Nat), .str ⟨#[c]⟩]) :=
      ⟨by show 2 ≤ sizeLine; decide, [.int i tk, .str ⟨#[c]⟩ u], .cons ⟨_, rfl⟩ (.cons ⟨_, rfl⟩ .nil), ⟨_, hT2, rfl, _, rfl⟩⟩
    have I1 : Inv X pins σ (upd H s.heap.objs.size (.tup [.int (i : Nat), .str ⟨#[c]⟩])) { s with heap := h'', toks := tk + 1 } :=
      I.turnedNew (ch := [e, it]) (fun b ob hb q => (sb.2 b (fun z => hb (by simp [z]))).trans (hk b ob (fun z => hb (by simp [z])) (fun z => hb (by simp [z])) q)) hf (Nat.le_refl _) new
    refine ⟨.ref s.heap.objs.size, _, I1, rfl, ⟨_, c, rfl, I.hok.fresh (Nat.le_refl _), rfl, hc1⟩, ⟨⟨.str ⟨#[c]⟩ u, ?_⟩, ?_, hne⟩, fun b hb => ?_⟩
    · have e1 : ((i + 1 : Nat) : Int) = (i : Int) + 1 := by omega
      rw [e1]; exact he'
    · obtain ⟨o, ho2, r⟩ := st'
      exact ⟨o, (sb.2 it (Ne.symm hne)).trans ho2, r⟩
    · have hb' : b < s.heap.objs.size := by
        have e' : b = e ∨ b = it := by simpa using hb
        rcases e' with z | z
        · rw [z]; exact hel
        · rw [z]; exact hil
      rw [upd_ne (Nat.ne_of_lt hb')]
      exact (hf b hb).1
  done := by
    intro X hP hw hK hc i pins s σ H E I hf st hg
    subst hP hw hK
    obtain ⟨⟨old, he⟩, hit, hne⟩ := st
    have hi : i = x.cps.size := hg
    subst hi
    obtain ⟨f0, f1, f2, f3, f4, f5⟩ := hf it (by simp)
    exact wpAny_pyNext_enum_endD (Draws.text (prog := X.prog) (w := X.w) (A := X.A.in1) (I.ok.hd hc) it x t) he hit fun h' eb => ⟨rfl, I.turned (t' := s.toks) (fun b o hb q => eb b o hb q) f0 f1 f3 f4 f5⟩
  self := fun A i s Q E st h => let ⟨⟨_, he⟩, _⟩ := st; wpAny_pyIter_enum he h
def iEnumS (ta : TA) : TI := fun σ H R => ta σ H fun vs H1 => ∃ x : Str, vs = [.str x] ∧ R (ItE x) H1
theorem pi_enumS {X : Cx} {e : Expr} {ta : TA} {p pos tpos : Pos} {elts : List Expr} {kk : Nat} (hg : Gl X "enumerate") (hm : X.mg "enumerate" = none) (ha : PA X [e] ta) (hs : starEach [e] X.env = [(false, eval e X.env)] := by rfl) :
    PI X (.Tuple elts kk tpos) (.Call (.Name "enumerate" p) [e] [] pos) (iEnumS ta) := by
  refine ⟨fun pins s σ H R I h => ?_⟩
  refine Call_ (ld_blt I hg hm boot_enumerate (PyProof.Rows.callWith_type1 (thn (ha.run pos pins s σ H _ I h) fun us s1 ⟨vs, H1, I1, r1, q1⟩ => ?_) hs rfl))
  obtain ⟨x, ex, q⟩ := q1
  subst ex
  cases r1 with
  | cons r rr =>
    cases rr
    obtain ⟨t, rfl⟩ := r
    refine PySem.call_enumerate_str fun h' he hit hsz hk => wpAny_pyIter_enum he ?_
    have I2 : Inv X pins σ H1 { s1 with heap := h' } := I1.kept (t' := s1.toks) hk
    refine ⟨s1.heap.objs.size + 1, [s1.heap.objs.size + 1, s1.heap.objs.size], _, _, H1, rfl, I2, turn (s1.heap.objs.size + 1) s1.heap.objs.size x t, ⟨⟨.none, he⟩, hit, Nat.succ_ne_self _⟩, fun b hb => ?_, q⟩
    have e' : b = s1.heap.objs.size + 1 ∨ b = s1.heap.objs.size := by simpa using hb
    have hle : s1.heap.objs.size ≤ b := by
      rcases e' with z | z
      · rw [z]; exact Nat.le_add_right _ _
      · rw [z]; exact Nat.le_refl _
    exact I1.fpOk hle (I1.hok.fresh hle)
end Es
namespace Dn
open PySem PySem.Spec PyProof.Rows L2
section
variable {X : Cx} {tg e : Expr} {p pos tpos : Pos} {Γ Γ1 : List Slot} {x : List Nat} {g : TG} {tgs : List Nat}
theorem chars_get {i : Nat} {y : List Nat} (h : (chars x)[i]? = some y) : ∃ c, x[i]? = some c ∧ y = [c] := by
  unfold chars at h
  rw [List.getElem?_map] at h
  cases e : x[i]? with
  | none => rw [e] at h; cases h
  | some c => rw [e] at h; exact ⟨c, rfl, (Option.some.inj h).symm⟩
theorem di_revS {B : List Nat → List Slot → List Slot} (hm : X.mg "reversed" = none) (hz : Sz x.length) (he : DE X e Γ .str x Γ1) (hg : EvG X.K g .str B tgs) (hgl : Gl X "reversed" := by rfl) (hs : starEach [e] X.env = (false, eval e X.env) :: starEach [] X.env := by rfl) :
    DI X tg (.Call (.Name "reversed" p) [e] [] pos) g Γ (chars x).reverse B tgs Γ1 := fun F G σ H W R q =>
  wpi_of (Rs.pi_revS hgl hm pe_wp hs) (he F G σ H W _ fun v G' H' s W' r => by
    have r : v = .str ⟨x.toArray⟩ := r
    subst r
    have cx : (⟨x.toArray⟩ : Str).length = x.length := len_mk x
    refine ⟨⟨x.toArray⟩, rfl, by rw [cx]; exact hz.le, q _ G' H' s W' ⟨fun i G2 H2 s1 s2 hi => ?_, fun G2 H2 s1 s2 => ?_, fun F i y G2 σ2 H2 Γ2 v H3 Q s1 W2 hy y' k => ?_⟩⟩
    · rw [List.length_reverse, chars_len] at hi
      show i < (⟨x.toArray⟩ : Str).length
      rw [cx]; exact hi
    · show _ = (⟨x.toArray⟩ : Str).length
      rw [cx, List.length_reverse, chars_len]
    · obtain ⟨e1, c, e2, e3⟩ := y'
      subst e1 e3
      have hi : i < (chars x).length := by have := (List.getElem?_eq_some_iff.mp hy).1; rwa [List.length_reverse] at this
      rw [List.getElem?_reverse hi, chars_len] at hy
      obtain ⟨c', h1, rfl⟩ := chars_get hy
      rw [cx] at e2
      have e2 : x[x.length - 1 - i]? = some c := by simpa using e2
      rw [h1] at e2; cases e2
      exact hg F G2 σ2 _ Γ2 (.str ⟨#[c]⟩) [c] W2 rfl Q fun σ' a' W3 => k G2 σ' _ (Same.refl G2) a' W3)
theorem di_enumS {elts : List Expr} {kk : Nat} {B : Int × List Nat → List Slot → List Slot} (hm : X.mg "enumerate" = none) (he : DE X e Γ .str x Γ1) (hg : EvG X.K g (.p2 .int .str) B tgs) (hgl : Gl X "enumerate" := by rfl) (hs : starEach [e] X.env = [(false, eval e X.env)] := by rfl) :
    DI X (.Tuple elts kk tpos) (.Call (.Name "enumerate" p) [e] [] pos) g Γ (enum (chars x)) B tgs Γ1 := fun F G σ H W R q =>
  wpi_of (Es.pi_enumS hgl hm pa_wp hs) ((da_cons he da_nil (by rw [hs]; rfl)) F G σ H W _ fun vs G' H' s W' r => by
    cases r with
    | @cons v _ _ _ r r' =>
      cases r'
      have r : v = .str ⟨x.toArray⟩ := r
      subst r
      have cx : (⟨x.toArray⟩ : Str).cps.size = x.length := by show x.toArray.size = _; simp
      refine ⟨⟨x.toArray⟩, rfl, q _ G' H' s W' ⟨fun i G2 H2 s1 s2 hi => ?_, fun G2 H2 s1 s2 => ?_, fun F i y G2 σ2 H2 Γ2 v H3 Q s1 W2 hy y' k => ?_⟩⟩
      · rw [enum_len, chars_len] at hi
        show i < (⟨x.toArray⟩ : Str).cps.size
        rw [cx]; exact hi
      · show _ = (⟨x.toArray⟩ : Str).cps.size
        rw [cx, enum_len, chars_len]
      · obtain ⟨T, c, rfl, nT, rfl, e2⟩ := y'
        obtain ⟨y1, y2⟩ := y
        obtain ⟨f1, f2⟩ := enum_get hy
        simp only at f1 f2
        subst f1
        obtain ⟨c', h1, rfl⟩ := chars_get f2
        have e2 : x[i]? = some c := by simpa using e2
        rw [h1] at e2; cases e2
        have sm := same_upd (o := .tup [.int (i : Nat), .str ⟨#[c]⟩]) (W2.gn nT)
        exact hg F _ σ2 _ Γ2 (.ref T) ((i : Int), [c]) (W2.newG nT) ⟨T, _, _, rfl, upd_same, rfl, rfl⟩ Q fun σ' a' W3 => k _ σ' _ sm a' W3)
end
end Dn

set_option Elab.async false
set_option linter.all false
set_option maxRecDepth 100000
set_option maxHeartbeats 2000000
/-! Dn55: min of two tuples; len(set(text)); d.get(k) -/
namespace M2d
open PySem PySem.Spec PyProof.Rows L2 PySem.W
theorem call_min2_walkH {prog : Program} {w : World} {A : Around} {E : Value → Shared → Prop} {s : Shared} {x y : Value} {Q : Value → Shared → Prop}
    (h : wpAny (model prog w) A.in1 (pyIter (.ref s.heap.objs.size)) (fun it s₂ => ∃ I fp wr G n P St H bt, it = Value.ref I ∧ WalksS prog w A.in1 I fp wr G n P St ∧ St 0 s₂ ∧ (∀ (b : Addr), b ∈ fp → b < s₂.heap.objs.size) ∧ 0 < n ∧
      (∀ (b : Addr) (o : Obj), H.get? b = some o → ¬b ∈ wr) ∧ (∀ (b : Addr) (o : Obj), H.get? b = some o → s₂.heap.get? b = some o) ∧ CmpIn prog w A.in1 CmpOp.Lt H P bt ∧
      ∀ (v : Value) (s' : Shared), P (argBest bt (n - 1)) v → Moved wr G s₂ s' → Q v s') E { s with heap := s.heap.push { cls := .type "tuple", data := .seq [x, y].toArray } }) :
    wpAny (model prog w) A (call (Value.builtin "min") [x, y]) Q E s := by
  refine call_function_tree F.kind_min F.plain_min F.entry_min (F.args_min2 x y) ?_
  refine wpAny_bind (wpAny_of_eq rfl ?_)
  show wpAny _ _ (newTuple [x, y] >>= fun items => pyIter items >>= fun it => newList [] >>= fun l => again (.builtin "min.loop" ⟨[it, Value.none, l], []⟩)) _ _ _
  refine wpAny_bind (wpAny_newTuple ?_ (by show 2 ≤ sizeLine; decide))
  refine wpAny_bind (wpAny_mono h (fun it s₂ h₂ => ?_) fun _ _ e => e)
  obtain ⟨I, fp, wr, G, n, P, St, H, bt, rfl, W, hst, hfp, hn, hw, hk, hcmp, hQ⟩ := h₂
  refine wpAny_bind (wpAny_newObj_type ?_ (by show 0 ≤ sizeLine; decide))
  refine wpAny_pure ⟨plainId_quiet F.plain_min_loop _, ?_⟩
  exact codeAny_min_loop_firstH W H hw bt hcmp s₂.heap.objs.size (fun hm => Nat.lt_irrefl _ (hfp _ hm)) (fresh_in hk) [] hn (fun b o e => Heap.get?_push_of_some _ (hk b o e))
    (W.frame 0 s₂ _ s₂.toks hst (Nat.le_refl _) fun b _ o e => Heap.get?_push_of_some _ e) (Heap.get?_push_size _ rfl) fun v s' hP hm => hQ v s' hP (Moved.drop_new hm (Nat.le_refl _))
end M2d
namespace Dn
open PySem PySem.Spec PyProof.Rows L2 TL
/-- min(a, b) -/
def min2T (t : Ty) (x y : t.den) : t.den := if ltT t y x = true then y else x
section
variable {X : Cx} {a b e : Expr} {pos p : Pos} {Γ Γ1 Γ2 : List Slot} {t : Ty} {x y : t.den}
def rMin2 (K : PySem.W.Frag) (t : Ty) : List V → Hp → VK → Prop := fun vs H Q => ∃ (v w : V) (G : Hp) (x y : t.den), vs = [v, w] ∧ Same G H ∧ Rep K t G v x ∧ Rep K t G w y ∧ ∀ u, Rep K t G u (min2T t x y) → Q u H
open PySem.W in
theorem cr_min2 {k : Nat} (hr : RoomG k X.A) (hcalm : X.calm = true) (hc : t.canLt = true) (hd : t.dep ≤ 60) : CallR X (.builtin "min") (rMin2 X.K t) := by
  intro pins s σ H vs us Q I r h
  obtain ⟨v, w, G, x, y, rfl, sg, r1, r2, q⟩ := h
  cases r with
  | cons rv rr =>
  cases rr with
  | cons rw' rr =>
  cases rr
  rename_i u1 u2
  have rep : RepL X.K t G [v, w] [x, y] := .cons r1 (.cons r2 .nil)
  have rv2 : Vals [v, w] [u1, u2] := .cons rv (.cons rw' .nil)
  have k0 : ∀ b o, s.heap.get? b = some o → (s.heap.push { cls := .type "tuple", data := .seq [u1, u2].toArray }).get? b = some o := fun b o e => Heap.get?_push_of_some _ e
  have I2 : Inv X pins σ H { s with heap := s.heap.push { cls := .type "tuple", data := .seq [u1, u2].toArray } } := I.kept (t' := s.toks) k0
  have hT : (s.heap.push { cls := .type "tuple", data := .seq [u1, u2].toArray }).IsTuple s.heap.objs.size [u1, u2].toArray := ⟨_, Heap.get?_push_size _ rfl, rfl, _, rfl⟩
  refine M2d.call_min2_walkH (iter_tupleW (A := X.A.in1) (I.ok.hd hcalm) hT fun s₂ e W st hfp hw hk => ?_)
  refine ⟨_, _, _, _, _, _, _, (s.heap.push { cls := .type "tuple", data := .seq [u1, u2].toArray }), _, rfl, W, st, hfp, (by show 0 < 2; decide), hw, hk, cmpIn_T hr hc hd I2 sg rep rv2 x, fun v' s' hP m => ?_⟩
  obtain ⟨h', tk, rfl, hk'⟩ := moved_old e rfl m
  obtain ⟨z, as, h1, h2, _⟩ := item_at I2 sg rep rv2 hP x
  have e2 := (argBest_fold (ltT t) x x [y] 1 (Nat.le_refl _)).2
  rw [show [u1, u2].toArray.size - 1 = 1 from rfl, e2] at h2
  exact ⟨z, H, I2.kept (t' := tk) hk', h1, q z h2⟩
theorem de_min2D {k : Nat} (hr : RoomG k X.A) (hm : X.mg "min" = none) (ha : DE X a Γ t x Γ1) (hb : DE X b Γ1 t y Γ2) (hc : X.calm = true := by rfl) (ht : t.canLt = true := by rfl) (hd : t.dep ≤ 60 := by decide) (hg : Gl X "min" := by rfl) (hs : starEach [a, b] X.env = (false, eval a X.env) :: starEach [b] X.env := by rfl) (hs2 : starEach [b] X.env = (false, eval b X.env) :: starEach [] X.env := by rfl) (hpl : (backTo pos (starEach [b] X.env)).any (·.1) = false := by rfl) :
    DE X (.Call (.Name "min" p) [a, b] [] pos) Γ t (min2T t x y) Γ2 := fun F G σ H W Q q =>
  wpe_of (pe_callB (cr_min2 (t := t) hr hc ht hd) hg hm (by decide +kernel) (pa_cons pe_wp (pa_cons pe_wp pa_nil hs2) hs) (by decide) (by decide) hs hpl) (ha F G σ H W _ fun v G1 H1 s1 W1 r1 => hb F G1 σ H1 W1 _ fun w G2 H2 s2 W2 r2 =>
    ⟨v, w, G2, x, y, rfl, W2.gh, rep_mono s2 t v x r1, r2, fun u r => q u G2 H2 (s1.trans s2) W2 r⟩)
/-- d.get(k) -/
theorem de_dget1 (i : Nat) {k : Nat} {npos apos : Pos} {n : Str} {pin : Bool} {kvs : List (Int × t.den)} {y : Int} (hr : RoomG k X.A) (ha : DE X a Γ .int y Γ1) (h0 : Γ[i]? = some (.ow pin (.dct t kvs))) (h2 : Γ1[i]? = some (.ow pin (.dct t kvs))) (hn : t.solid2 = true := by rfl)
    (hN : X.N[i]? = some n := by rfl) (hv : Vis X.env.scope n := by first | exact Or.inl rfl | exact Or.inr (Or.inl rfl) | exact Or.inr (Or.inr rfl))
    (hd : (n == ("__debug__" : Str)) = false := by decide) (hcd : (n == ("__classdict__" : Str)) = false := by decide) (m : M1 X (.Name n npos) "get" apos a pos := by exact ⟨rfl, rfl, rfl, rfl⟩) : DE X (.Call (.Attribute (.Name n npos) "get" apos) [a] [] pos) Γ (.opt t) (dget kvs y) Γ1 := fun F G σ H W Q q => by
  obtain ⟨d, ws, e1, e2, e3⟩ := W.ownedD h0
  have hu : X.A.units + 1 < cLine := by have := hr.units; omega
  refine wpe_of (pe_dget1 hu (pe_var hN hv hd hcd) pe_wp m) ⟨.ref d, e1, d, rfl, .inl ⟨ws, .inl e2⟩, ha F G σ H W _ fun w G1 H1 s1 W1 r1 => ?_⟩
  obtain ⟨d', ws', g1, g2, g3⟩ := W1.ownedD h2
  rw [e1] at g1; cases g1
  have r1 : w = V.int y := r1
  subst r1
  refine ⟨valV ws' (Sum.inl y), DGet.k (k := Sum.inl y) g2, ?_⟩
  cases e : dget kvs y with
  | none => rw [(repD_get g3).1 e]; exact q _ G1 H1 s1 W1 (by rw [e]; rfl)
  | some z => obtain ⟨u, f1, f2⟩ := (repD_get g3).2 z e; rw [f1]; exact q _ G1 H1 s1 W1 (by rw [e]; exact ⟨rep_nn hn f2, f2⟩)
end
/-! ### len(set(text)) -/
section
open Sx
variable {X : Cx} {e : Expr} {p p2 pos pos2 : Pos} {Γ Γ1 : List Slot} {x : List Nat}
theorem cr_lenTX : CallR X (.builtin "len") (fun vs H Q => ∃ (a : Addr) (x : List Nat) (n : Nat), vs = [V.ref a] ∧ x.length ≤ 4000 ∧ H a = some (SetXO X.w a (fun j => decide (j ∈ (chars x).map fun x => (⟨x.toArray⟩ : Str))) n) ∧ Q (.int (((nubD (chars x)).length : Nat) : Int)) H) := by
  intro pins s σ H vs us Q I r h
  obtain ⟨a, x, n, rfl, hl, ha, q⟩ := h
  have R : SetX X.w s.heap a (fun j => decide (j ∈ (chars x).map fun x => (⟨x.toArray⟩ : Str))) n := (I.hok a _ ha).1
  rw [Vals.ref1 r]
  obtain ⟨o, es, ep, t, ho, hex, hd, g, nd, hm, hb, hf, hn, hr, hl2⟩ := R
  have e1 : es.size = (nubD (chars x)).length := by
    have inj : ∀ u v : List Nat, (⟨u.toArray⟩ : Str) = ⟨v.toArray⟩ → u = v := fun u v h => by
      injection h with h
      exact List.toArray_inj h
    have nd2 : ((nubD (chars x)).map fun x => (⟨x.toArray⟩ : Str)).Nodup := (List.pairwise_map).mpr ((nubD_nodup (chars x)).imp fun {u v} h k => h (inj u v k))
    have pm : (List.map keyS es.toList).Perm ((nubD (chars x)).map fun x => (⟨x.toArray⟩ : Str)) := (List.perm_ext_iff_of_nodup nd nd2).mpr fun k => by
      rw [← hm k, decide_eq_true_iff, List.mem_map, List.mem_map]
      exact ⟨fun ⟨u, hu, e⟩ => ⟨u, mem_nubD.mpr hu, e⟩, fun ⟨u, hu, e⟩ => ⟨u, mem_nubD.mp hu, e⟩⟩
    have := pm.length_eq
    rw [List.length_map, List.length_map, Array.length_toList] at this
    exact this
  have hb2 : es.size < scanBound := hb
  refine call_len_set ho hex hd hf (by unfold scanBound at hb2; omega) ?_
  rw [e1]
  exact ⟨.int (((nubD (chars x)).length : Nat) : Int), H, I.tok _, ⟨_, rfl⟩, q⟩
theorem de_lensetT (hm : X.mg "len" = none) (hm2 : X.mg "set" = none) (hz : x.length ≤ 4000) (h : DE X e Γ .str x Γ1) (hc : X.calm = true := by rfl) (hg : Gl X "len" := by rfl) (hg2 : Gl X "set" := by rfl)
    (hs : starEach [e] X.env = (false, eval e X.env) :: starEach [] X.env := by rfl) (hpl : (backTo pos2 (starEach [] X.env)).any (·.1) = false := by rfl)
    (hs2 : starEach [.Call (.Name "set" p2) [e] [] pos2] X.env = (false, eval (.Call (.Name "set" p2) [e] [] pos2) X.env) :: starEach [] X.env := by rfl) (hpl2 : (backTo pos (starEach [] X.env)).any (·.1) = false := by rfl) :
    DE X (.Call (.Name "len" p) [.Call (.Name "set" p2) [e] [] pos2] [] pos) Γ .int (((nubD (chars x)).length : Nat) : Int) Γ1 := fun F G σ H W Q q =>
  wpe_of (pe_callB cr_lenTX hg hm PySem.boot_len pa_wp (by decide) (by decide) hs2 hpl2) (wpa_one hs2
    (wpe_of (pe_callTy (cr_setTX hc) hg2 hm2 (by decide +kernel) pa_wp (by decide) (by decide) hs hpl) (wpa_one hs (h F G σ H W _ fun v G1 H1 s1 W1 r1 => by
      refine ⟨x, by rw [show v = vS x from r1], hz, fun b n hb => ⟨b, x, n, rfl, hz, upd_same, ?_⟩⟩
      have W2 := (W1.new (ho := SetXO X.w b (fun j => decide (j ∈ (chars x).map fun x => (⟨x.toArray⟩ : Str))) n) hb).drop (W1.tn hb)
      exact q _ G1 _ s1 W2 rfl))))
end
end Dn

set_option Elab.async false
set_option linter.all false
set_option maxRecDepth 100000
set_option maxHeartbeats 2000000
/-! Dn56: tuples of five -/
namespace Dn
open PySem PySem.Spec PyProof.Rows L2 TL
section
variable {X : Cx} {a1 a2 a3 a4 a5 a : Expr} {pos : Pos} {Γ Γ1 Γ2 Γ3 Γ4 Γ5 : List Slot} {A B C D E' : Ty} {x1 : A.den} {x2 : B.den} {x3 : C.den} {x4 : D.den} {x5 : E'.den}
theorem de_t5 {k} (h1 : DE X a1 Γ A x1 Γ1) (h2 : DE X a2 Γ1 B x2 Γ2) (h3 : DE X a3 Γ2 C x3 Γ3) (h4 : DE X a4 Γ3 D x4 Γ4) (h5 : DE X a5 Γ4 E' x5 Γ5) (hs : starEach [a1, a2, a3, a4, a5] X.env = (false, eval a1 X.env) :: starEach [a2, a3, a4, a5] X.env := by rfl) (hs2 : starEach [a2, a3, a4, a5] X.env = (false, eval a2 X.env) :: starEach [a3, a4, a5] X.env := by rfl)
    (hs3 : starEach [a3, a4, a5] X.env = (false, eval a3 X.env) :: starEach [a4, a5] X.env := by rfl) (hs4 : starEach [a4, a5] X.env = (false, eval a4 X.env) :: starEach [a5] X.env := by rfl) (hs5 : starEach [a5] X.env = (false, eval a5 X.env) :: starEach [] X.env := by rfl) : DE X (.Tuple [a1, a2, a3, a4, a5] k pos) Γ (.p5 A B C D E') (x1, x2, x3, x4, x5) Γ5 := fun F G σ H W Q q =>
  wpe_of (pe_tup (pa_cons pe_wp (pa_cons pe_wp (pa_cons pe_wp (pa_cons pe_wp (pa_cons pe_wp pa_nil hs5) hs4) hs3) hs2) hs)) (h1 F G σ H W _ fun v1 G1 H1 s1 W1 r1 => h2 F G1 σ H1 W1 _ fun v2 G2 H2 s2 W2 r2 => h3 F G2 σ H2 W2 _ fun v3 G3 H3 s3 W3 r3 => h4 F G3 σ H3 W3 _ fun v4 G4 H4 s4 W4 r4 => h5 F G4 σ H4 W4 _ fun v5 G5 H5 s5 W5 r5 => by
    refine ⟨(by show 5 ≤ sizeLine; decide), fun p hp => ?_⟩
    have sm := same_upd (o := .tup [v1, v2, v3, v4, v5]) (W5.gn hp)
    exact q (.ref p) _ _ (((((s1.trans s2).trans s3).trans s4).trans s5).trans sm) (W5.newG hp) ⟨p, v1, v2, v3, v4, v5, rfl, .inl (.inl upd_same), rep_mono ((((s2.trans s3).trans s4).trans s5).trans sm) A _ _ r1, rep_mono (((s3.trans s4).trans s5).trans sm) B _ _ r2, rep_mono ((s4.trans s5).trans sm) C _ _ r3, rep_mono (s5.trans sm) D _ _ r4, rep_mono sm E' _ _ r5⟩)
theorem eg_5 (i j k l m : Nat) (A B C D E' : Ty) : EvG X.K (gTup X.K 5 (gCons (gName i) (gCons (gName j) (gCons (gName k) (gCons (gName l) (gCons (gName m) gNil)))))) (.p5 A B C D E') (fun x Γ => ((((Γ.set i (.fr A x.1)).set j (.fr B x.2.1)).set k (.fr C x.2.2.1)).set l (.fr D x.2.2.2.1)).set m (.fr E' x.2.2.2.2)) [i, j, k, l, m] := fun F G σ H Γ v x W r Q q => by
  obtain ⟨p, v1, v2, v3, v4, v5, rfl, h1, h2, h3, h4, h5, h6⟩ := r
  refine ⟨p, [v1, v2, v3, v4, v5], rfl, sqt_mono W.gh h1, rfl, ?_⟩
  exact (egs_cons i A (egs_cons j B (egs_cons k C (egs_cons l D (egs_cons m E' egs_nil))))).2 F G σ H Γ [v1, v2, v3, v4, v5] [.fr A x.1, .fr B x.2.1, .fr C x.2.2.1, .fr D x.2.2.2.1, .fr E' x.2.2.2.2] W (.cons h2 (.cons h3 (.cons h4 (.cons h5 (.cons h6 .nil))))) rfl Q q
end
end Dn

set_option Elab.async false
set_option linter.all false
set_option maxRecDepth 100000
set_option maxHeartbeats 1000000
/-! Dn57: list(reversed(l)), l a list -/
namespace Rv
open PySem PySem.Spec PyProof.Rows RT
section
variable {prog : Program} {w : World} {A : Around} {E : Value → Shared → Prop} {s : Shared}
theorem extend_lr {it l : Addr} {items : Array Value} {R : Result → Shared → Prop} (hh : A.handled = none) (hit : s.heap.IsRevIter it l ((items.size : Int) - 1)) (hl : s.heap.IsList l items) (hne : l ≠ it) (hn : items.size ≤ sizeLine)
    (S : Addr) (hSi : S ≠ it) (hSl : S ≠ l) (res : Value) (c₀ : Nat) (hS : s.heap.get? S = some { cls := .type "list", data := .seq #[] c₀ })
    (hR : ∀ h' tk acc' c', (∀ b o, b ≠ S → b ≠ it → s.heap.get? b = some o → h'.get? b = some o) → h'.get? S = some { cls := .type "list", dict := none, data := .seq acc' c', slots := #[] } → ItemsOf (fun i v => items[items.size - 1 - i]? = some v) acc' items.size → R (.ok (.ret res)) { s with heap := h', toks := tk }) :
    wpAny (model prog w) A.in1 (Builtin.List.listExtendWith (.ref S) (.ref it) res)
      (fun fin s' => match fin with | .done f => R (.ok f) s' | .again c' => c'.quiet = true ∧ codeAny (model prog w) A c' R s') (fun e s' => R (.error e) s') s := by
  have W := (Walks.listRev (prog := prog) (w := w) (A := A.in1) hh it l hne items).toS
  have hSf : S ∉ [it, l] := by simp only [List.mem_cons, List.not_mem_nil, or_false, not_or]; exact ⟨hSi, hSl⟩
  have hT : s.TypeIs (.ref it) "list_reverseiterator" := Heap.IsRevIter.typeIs hit
  have h1 : Builtin.List.listSameRef (.ref S) (.ref it) = false := by simp [Builtin.List.listSameRef, hSi]
  unfold Builtin.List.listExtendWith
  refine wpAny_bind (wpAny_typeOf hT ?_)
  rw [if_neg (by rw [h1]; decide)]
  refine wpAny_bind (wpAny_pyIter_revIter hit ?_)
  refine wpAny_bind (wpAny_holding ?_)
  unfold Builtin.List.listLengthHint
  refine wpAny_bind (wpAny_specialOf hT nolen_lri ?_)
  show wpAny _ A.in1 (specialOf (Value.ref it) (Str.ofString "__length_hint__") >>= _) _ _ _
  refine wpAny_bind (wpAny_specialOf hT hint_lri ?_)
  generalize hid : ("list_reverseiterator.__length_hint__" : String) = id0
  wp_delta
  rw [show splitId id0 = some ("list_reverseiterator", "__length_hint__") from by subst hid; decide +kernel]
  subst hid
  refine wpAny_bind (wpAny_isInstance (b := true) hT (by rw [isSubtype_type]; kernel_rfl) ?_)
  refine wpAny_pure ?_
  rw [if_neg (by decide)]
  have e0 : ((items.size : Nat) : Int) - 1 - ((0 : Nat) : Int) = (items.size : Int) - 1 := by omega
  refine wpAny_pure ⟨plainId_quiet F.plain_extend_loop _, codeAny_extend_loopS W hn S hSf res items.size 0 _ #[] c₀ rfl (Nat.zero_le _) ⟨Nat.zero_le _, by rw [e0]; exact hit, hl⟩ hS (ItemsOf.nil _) fun s' acc' c' hm hS' hacc => ?_⟩
  rw [Moved.eq_with hm]
  refine hR s'.heap s'.toks acc' c' (fun b o hb hb2 e => hm.heap b o (fun hmem => ?_) e) hS' hacc
  rcases List.mem_cons.mp hmem with e' | hmem
  · exact hb e'
  · exact hb2 (List.mem_singleton.mp hmem)
theorem init_lr {it l : Addr} {items : Array Value} {R : Result → Shared → Prop} (hh : A.handled = none) (hit : s.heap.IsRevIter it l ((items.size : Int) - 1)) (hl : s.heap.IsList l items) (hne : l ≠ it) (hn : items.size ≤ sizeLine)
    (S : Addr) (hSi : S ≠ it) (hSl : S ≠ l) (hS : s.heap.get? S = some { cls := .type "list", data := .seq #[] })
    (hR : ∀ h' tk acc' c', (∀ b o, b ≠ S → b ≠ it → s.heap.get? b = some o → h'.get? b = some o) → h'.get? S = some { cls := .type "list", dict := none, data := .seq acc' c', slots := #[] } → ItemsOf (fun i v => items[items.size - 1 - i]? = some v) acc' items.size → R (.ok (.ret .none)) { s with heap := h', toks := tk }) :
    wpAny (model prog w) A.in1 (Builtin.«list.__init__» ⟨[.ref S, .ref it], []⟩)
      (fun fin s' => match fin with | .done f => R (.ok f) s' | .again c' => c'.quiet = true ∧ codeAny (model prog w) A c' R s') (fun e s' => R (.error e) s') s := by
  show wpAny _ _ (do let old ← Builtin.List.listItems (.ref S); Builtin.List.listUpdate (.ref S) (fun _ => #[]); letGo old.toList.reverse; Builtin.List.listExtendWith (.ref S) (.ref it) .none) _ _ s
  refine wpAny_bind ?_
  unfold Builtin.List.listItems
  refine wpAny_bind (wpAny_seqItems hS rfl (wpAny_pure ?_))
  show wpAny _ _ (updateSeq S (fun _ => #[]) >>= fun _ => letGo (#[] : Array Value).toList.reverse >>= fun _ => Builtin.List.listExtendWith (.ref S) (.ref it) .none) _ _ s
  refine wpAny_bind (wpAny_updateSeq hS rfl ?_)
  have hS₂ := Heap.get?_update_self (Obj.mapSeq (fun _ => (#[] : Array Value))) hS rfl
  have oth : ∀ b o, b ≠ S → s.heap.get? b = some o → (s.heap.update S (Obj.mapSeq (fun _ => (#[] : Array Value)))).get? b = some o :=
    fun b o hb e => (Heap.get?_update_other _ _ (Ne.symm hb)).trans e
  refine wpAny_bind (wpAny_letGo ?_)
  refine extend_lr hh (hit.at fun o e => oth _ o (Ne.symm hSi) e) (hl.at fun o e => oth _ o (Ne.symm hSl) e) hne hn S hSi hSl .none _ hS₂ (fun h' tk acc' c' hk hS' hacc => ?_)
  exact hR h' tk acc' c' (fun b o hb hb2 e => hk b o hb hb2 (oth b o hb e)) hS' hacc
theorem call_list_lr {it l : Addr} {items : Array Value} {Q : Value → Shared → Prop} (hh : A.handled = none) (hit : s.heap.IsRevIter it l ((items.size : Int) - 1)) (hl : s.heap.IsList l items) (hne : l ≠ it) (hn : items.size ≤ sizeLine)
    (hQ : ∀ h' tk acc' c', (∀ b o, b ≠ it → s.heap.get? b = some o → h'.get? b = some o) → h'.get? s.heap.objs.size = some { cls := .type "list", dict := none, data := .seq acc' c', slots := #[] } → ItemsOf (fun i v => items[items.size - 1 - i]? = some v) acc' items.size → Q (.ref s.heap.objs.size) { s with heap := h', toks := tk }) :
    wpAny (model prog w) A (call (.type "list") [.ref it]) Q E s := by
  refine callType_codes (Q₁ := fun obj s₁ => obj = .ref s.heap.objs.size ∧ s₁ = { s with heap := s.heap.push { cls := .type "list", data := .seq #[] } }) PySem.F.called_list (PySem.F.typeCall_list_1 _) PySem.F.entry_list_init
    (code_list_new _ ⟨rfl, rfl⟩) fun obj s₁ h₁ => ?_
  obtain ⟨rfl, rfl⟩ := h₁
  have hS : (s.heap.push { cls := .type "list", data := .seq #[] }).get? s.heap.objs.size = some { cls := .type "list", data := .seq #[] } := Heap.get?_push_size _ rfl
  obtain ⟨oi, hoi, _⟩ := id hit
  obtain ⟨ol, hol, _⟩ := id hl
  refine ⟨⟨_, hS, rfl⟩, PySem.F.args_list_init_2 _ _, init_lr (A := A.in1) hh (hit.at fun o e => Heap.get?_push_of_some _ e) (hl.push _) hne hn _ (Nat.ne_of_gt (Heap.lt_size hoi)) (Nat.ne_of_gt (Heap.lt_size hol)) hS (fun h' tk acc' c' hk hS' hacc => ?_)⟩
  exact ⟨rfl, hQ h' tk acc' c' (fun b o hb e => hk b o (Nat.ne_of_lt (Heap.lt_size e)) hb (Heap.get?_push_of_some _ e)) hS' hacc⟩
end
end Rv
namespace Rv
open PySem PySem.Spec PyProof.Rows RT L2
def tLstRevT (K : PySem.W.Frag) (te : TE) : TE := fun σ H Q => te σ H fun v H1 => ∃ (a : Addr) (xs : List V), v = .ref a ∧ SqL K H1 a xs ∧ ∀ q, H1 q = none → Q (.ref q) (upd H1 q (.lst xs.reverse))
section
variable {X : Cx}
theorem pe_lstRevT {e : Expr} {te : TE} {p p2 pos pos2 : Pos} (hc : X.calm = true) (hg : Gl X "list") (hm : X.mg "list" = none) (hg2 : Gl X "reversed") (hm2 : X.mg "reversed" = none) (he : PE X e te)
    (hs : starEach [e] X.env = (false, eval e X.env) :: starEach [] X.env := by rfl)
    (hs2 : starEach [.Call (.Name "reversed" p2) [e] [] pos2] X.env = (false, eval (.Call (.Name "reversed" p2) [e] [] pos2) X.env) :: starEach [] X.env := by rfl) :
    PE X (.Call (.Name "list" p) [.Call (.Name "reversed" p2) [e] [] pos2] [] pos) (tLstRevT X.K te) := by
  refine ⟨fun pins s σ H Q I h => ?_⟩
  refine Call_ (ld_blt I hg hm boot_list (PyProof.Rows.callWith_type1 (args_cons (Call_ (ld_blt I hg2 hm2 PyProof.Rows.boot_reversed (PyProof.Rows.callWith_type1 (args_cons (thn (he.run pins s σ H _ I h) fun u s1 ⟨v, H1, I1, r1, q1⟩ => args_nil ?_) hs) hs rfl))) hs2) hs2 rfl))
  obtain ⟨a, xs, ev, hq, q⟩ := q1
  subst ev
  obtain rfl : u = Value.ref a := r1
  obtain ⟨its, rv, p', hz⟩ := I1.list hq
  refine call_reversed_list p'.isList (args_nil ?_)
  have k0 : ∀ b o, s1.heap.get? b = some o → (s1.heap.push (revObj a ((its.toArray.size : Int) - 1))).get? b = some o := fun b o e => Heap.get?_push_of_some _ e
  have I2 : Inv X pins σ H1 { s1 with heap := s1.heap.push (revObj a ((its.toArray.size : Int) - 1)) } := I1.kept (t' := s1.toks) k0
  obtain ⟨f0, f1, f2, f3, f4, f5⟩ := I1.fpOk (H' := H1) (b := s1.heap.objs.size) (Nat.le_refl _) (I1.hok.fresh (Nat.le_refl _))
  have hl := p'.isList
  obtain ⟨ol, hol, _⟩ := id hl
  have hne : a ≠ s1.heap.objs.size := Nat.ne_of_lt (Heap.lt_size hol)
  have hn : its.toArray.size ≤ sizeLine := by rw [List.size_toArray, ← rv.length]; exact hz
  refine call_list_lr (s := { s1 with heap := s1.heap.push (revObj a ((its.toArray.size : Int) - 1)) }) (I1.ok.hd hc) ⟨_, Heap.get?_push_size _ rfl, rfl, rfl⟩ (hl.push _) hne hn fun h' tk acc c' hk hS hi => ?_
  have hsz2 : (s1.heap.push (revObj a ((its.toArray.size : Int) - 1))).objs.size = s1.heap.objs.size + 1 := by simp [Heap.push]
  refine ⟨.ref _, upd H1 (s1.heap.push (revObj a ((its.toArray.size : Int) - 1))).objs.size (.lst xs.reverse), I1.laid (t' := tk) (fun b o e => hk b o (Nat.ne_of_lt (Heap.lt_size e)) (k0 b o e)) (by rw [hsz2]; exact Nat.le_succ _)
    (show ObjOk X.prog X.w _ _ _ (.lst xs.reverse) from ⟨by rw [List.length_reverse]; exact hz, acc.toList, c', vals_rev rv hi, by rw [Array.toArray_toList]; exact hS⟩), rfl, q _ (I1.hok.fresh (by rw [hsz2]; exact Nat.le_succ _))⟩
end
end Rv
namespace Dn
open PySem PySem.Spec PyProof.Rows L2
section
variable {X : Cx} {e : Expr} {p p2 pos pos2 : Pos} {Γ Γ1 : List Slot} {t : Ty} {xs : List t.den}
theorem do_listRev (hm : X.mg "list" = none) (hm2 : X.mg "reversed" = none) (h : DL X e Γ t xs Γ1) (hc : X.calm = true := by rfl) (hg : Gl X "list" := by rfl) (hg2 : Gl X "reversed" := by rfl)
    (hs : starEach [e] X.env = (false, eval e X.env) :: starEach [] X.env := by rfl)
    (hs2 : starEach [.Call (.Name "reversed" p2) [e] [] pos2] X.env = (false, eval (.Call (.Name "reversed" p2) [e] [] pos2) X.env) :: starEach [] X.env := by rfl) :
    DO X (.Call (.Name "list" p) [.Call (.Name "reversed" p2) [e] [] pos2] [] pos) Γ (.lst t xs.reverse) Γ1 := fun F G σ H W Q q =>
  wpe_of (Rv.pe_lstRevT hc hg hm hg2 hm2 pe_wp hs hs2) (h F G σ H W _ fun a vs G1 H1 s1 W1 h1 h2 => ⟨a, vs, rfl, h1, fun l hl => q l _ G1 _ s1 (W1.new hl) (W1.tn hl) ⟨_, rfl, pair_rev h2⟩⟩)
end
end Dn

set_option Elab.async false
set_option linter.all false
set_option maxRecDepth 100000
set_option maxHeartbeats 2000000
/-! Dn58: ''.join(reversed(l)), l a list of texts -/
namespace Rs
open PySem PySem.Spec PyProof.Rows RT Rv Builtin Builtin.Str L2
section
variable {prog : Program} {w : World} {A : Around} {E : Value → Shared → Prop} {s : Shared}
theorem joinLr {sep : Str} {ys : List Str} {its : List Value} {ts : Tok} {it l : Addr} {Q : Value → Shared → Prop} (hh : A.handled = none) (hit : s.heap.IsRevIter it l ((its.toArray.size : Int) - 1)) (hl : s.heap.IsList l its.toArray) (hne : l ≠ it) (hn : its.toArray.size ≤ sizeLine)
    (hv : Vals (ys.map V.str) its) (hok : JoinOk sep ys.reverse = true)
    (hq : ∀ (h' : Heap) (t' : Tok) (k : Nat), (∀ b o, b ≠ it → s.heap.get? b = some o → h'.get? b = some o) → Q (.str (Txt.join sep ys.reverse) t') { s with heap := h', toks := k }) :
    wpAny (model prog w) A (call (.builtin "str.join") [.str sep ts, .ref it]) Q E s := by
  refine wpAny_call (codeAny_call_builtin F.slot_str_join.plain F.entry_str_join (F.slot_str_join.check _ _ _ _ _ _ _ _ (typeIs_str _ _ _) (F.args_str_join_2 _ _) ?_))
  rw [join_tree_other]
  refine wpAny_bind (wpAny_typeOf hit.typeIs ?_)
  show wpAny _ A.in1 ((pyIter (.ref it)).tryCatch _ >>= fun it => collect it >>= fun items => joinTail sep items) _ _ s
  refine wpAny_bind (wpAny_tryCatch (wpAny_pyIter_revIter hit ?_))
  refine wpAny_bind (collect_rev (A := A.in1) hh hit hl hne hn fun h' tk acc keep hacc => ?_)
  have hr := vals_rev hv hacc
  have key : ∀ (zs : List Str) (us : List Value), Vals (zs.map V.str) us → ∃ q : List (Str × Tok), us = strValues q ∧ q.map (·.1) = zs := by
    intro zs
    induction zs with
    | nil => intro us h; cases h; exact ⟨[], rfl, rfl⟩
    | cons z zs ih =>
      intro us h
      cases h with
      | cons h1 h2 =>
        obtain ⟨t, rfl⟩ := h1
        obtain ⟨q, rfl, e⟩ := ih _ h2
        exact ⟨(z, t) :: q, rfl, by rw [List.map_cons, e]⟩
  obtain ⟨q, hl2, ht⟩ := key ys.reverse acc.toList (by rw [List.map_reverse]; exact hr)
  rw [hl2]
  have hok' : JoinOk sep (q.map (·.1)) = true := by rw [ht]; exact hok
  unfold JoinOk at hok'
  rw [Bool.not_eq_true'] at hok'
  have g : Gives (joinTail sep (strValues q)) (joinMade sep q) := by
    have g0 := gives_joinTail sep q hok'
    cases q with
    | nil => exact g0
    | cons p r => cases r with
      | nil => exact g0
      | cons q r' => exact g0
  exact g prog w A (wants Q E) { s with heap := h', toks := tk } (post_join q ⟨joinFit_length hok', fun t' k => by rw [ht]; exact hq h' t' k keep⟩)
end
def tJoinRevL (K : PySem.W.Frag) (to te : TE) : TE := fun σ H Q => to σ H fun x H1 => ∃ a : Str, x = .str a ∧ te σ H1 fun y H2 => ∃ (q : Addr) (ys : List Str), y = .ref q ∧ SqL K H2 q (ys.map V.str) ∧ (∃ B : Nat, (∀ z ∈ ys, z.length ≤ B) ∧ ys.length * B + ys.length * a.length ≤ 16777216) ∧ Q (.str (Txt.join a ys.reverse)) H2
section
variable {X : Cx} {o e : Expr} {to te : TE}
theorem pe_joinRevL {apos pos p2 pos2 : Pos} (hc : X.calm = true) (hg2 : Gl X "reversed") (hm2 : X.mg "reversed" = none) (ho : PE X o to) (he : PE X e te)
    (hs : starEach [.Call (.Name "reversed" p2) [e] [] pos2] X.env = [(false, eval (.Call (.Name "reversed" p2) [e] [] pos2) X.env)] := by rfl) (hs2 : starEach [e] X.env = (false, eval e X.env) :: starEach [] X.env := by rfl)
    (hbase : attributeBase o "join" X.env (eval o X.env) = eval o X.env := by rfl) (hline : (apos.endLine == pos.line) = true := by rfl) :
    PE X (.Call (.Attribute o "join" apos) [.Call (.Name "reversed" p2) [e] [] pos2] [] pos) (tJoinRevL X.K to te) := by
  refine ⟨fun pins s σ H Q I h => ?_⟩
  refine PySem.Call_method1 hbase hs hline (thn (ho.run pins s σ H _ I h) fun v s1 ⟨x, H1, I1, r1, q1⟩ => ?_)
  obtain ⟨a, ex, q1⟩ := q1
  subst ex
  obtain ⟨t, rfl⟩ := _root_.id r1
  refine ⟨"str", _, PySem.F.plainAttrs_str, PySem.F.slot_str_join, PySem.F.type_str_join, typeIs_str _ _ _, (fun _ e => nomatch e), Calls.callWith_builtin rfl (Calls.evalArgs_plain (Calls.spliced_cons ?_))⟩
  refine Call_ (ld_blt I1 hg2 hm2 PyProof.Rows.boot_reversed (PyProof.Rows.callWith_type1 (args_cons (thn (he.run pins s1 σ H1 _ I1 q1) fun u s2 ⟨y, H2, I2, r2, q2⟩ => args_nil ?_) hs2) hs2 rfl))
  obtain ⟨b, ys, ey, hq, ⟨B, hB, hz⟩, q⟩ := q2
  subst ey
  obtain rfl : u = Value.ref b := r2
  obtain ⟨its, rv, p', hsz⟩ := I2.list hq
  refine call_reversed_list p'.isList (Calls.spliced_nil ?_)
  have k0 : ∀ c ob, s2.heap.get? c = some ob → (s2.heap.push (revObj b ((its.toArray.size : Int) - 1))).get? c = some ob := fun c ob e => Heap.get?_push_of_some _ e
  have I3 : Inv X pins σ H2 { s2 with heap := s2.heap.push (revObj b ((its.toArray.size : Int) - 1)) } := I2.kept (t' := s2.toks) k0
  obtain ⟨f0, f1, f2, f3, f4, f5⟩ := I2.fpOk (H' := H2) (b := s2.heap.objs.size) (Nat.le_refl _) (I2.hok.fresh (Nat.le_refl _))
  have hl := p'.isList
  obtain ⟨ol, hol, _⟩ := id hl
  have hne : b ≠ s2.heap.objs.size := Nat.ne_of_lt (Heap.lt_size hol)
  have hn : its.toArray.size ≤ sizeLine := by rw [List.size_toArray, ← rv.length]; exact hsz
  refine joinLr (s := { s2 with heap := s2.heap.push (revObj b ((its.toArray.size : Int) - 1)) }) (I2.ok.hd hc) ⟨_, Heap.get?_push_size _ rfl, rfl, rfl⟩ (hl.push _) hne hn rv ?_ fun h' t' k keep => ?_
  · unfold JoinOk
    rw [StrLaws.joinFits (B := B) (fun y hy => hB y (List.mem_reverse.mp hy)) (by rw [List.length_reverse]; exact hz)]; rfl
  · have I4 : Inv X pins σ H2 { s2 with heap := h', toks := k } := I3.turned (t' := k) (fun c ob hc' e => keep c ob hc' e) f0 f1 f3 f4 f5
    exact ⟨.str _, H2, I4, ⟨t', rfl⟩, q⟩
end
end Rs
namespace Dn
open PySem PySem.Spec PyProof.Rows L2 TL
section
variable {X : Cx} {a e : Expr} {pos p2 pos2 apos : Pos} {Γ Γ1 Γ2 : List Slot} {s : List Nat} {xs : List (List Nat)}
def JrOk (s : List Nat) (xs : List (List Nat)) : Prop := s.length ≤ 100 ∧ xs.length ≤ 1000 ∧ ∀ x ∈ xs, x.length ≤ 1000
/-- sep.join(reversed(l)) -/
theorem de_joinRevL (hz : JrOk s xs) (hm2 : X.mg "reversed" = none) (ha : DE X a Γ .str s Γ1) (hb : DL X e Γ1 .str xs Γ2) (hc : X.calm = true := by rfl) (hg2 : Gl X "reversed" := by rfl)
    (hs : starEach [.Call (.Name "reversed" p2) [e] [] pos2] X.env = [(false, eval (.Call (.Name "reversed" p2) [e] [] pos2) X.env)] := by rfl) (hs2 : starEach [e] X.env = (false, eval e X.env) :: starEach [] X.env := by rfl)
    (hbase : attributeBase a "join" X.env (eval a X.env) = eval a X.env := by rfl) (hline : (apos.endLine == pos.line) = true := by rfl) :
    DE X (.Call (.Attribute a "join" apos) [.Call (.Name "reversed" p2) [e] [] pos2] [] pos) Γ .str (joinS s xs.reverse) Γ2 := fun F G σ H W Q q =>
  wpe_of (Rs.pe_joinRevL hc hg2 hm2 pe_wp pe_wp hs hs2 hbase hline) (ha F G σ H W _ fun v G1 H1 s1 W1 r1 => ⟨⟨s.toArray⟩, r1, hb F G1 σ H1 W1 _ fun q2 vs G2 H2 s2 W2 h1 h2 => by
    refine ⟨q2, xs.map fun x => (⟨x.toArray⟩ : Str), rfl, ?_, ⟨1000, ?_, ?_⟩, q _ G2 H2 (s1.trans s2) W2 ?_⟩
    · rw [← repL_str h2]; exact h1
    · intro z hz'
      obtain ⟨x, hx, rfl⟩ := List.mem_map.mp hz'
      rw [len_mk]; exact hz.2.2 x hx
    · rw [List.length_map, len_mk]
      have := hz.2.1
      have := hz.1
      have h5 : xs.length * s.length ≤ 1000 * 100 := Nat.mul_le_mul hz.2.1 hz.1
      omega
    show V.str _ = vS _
    unfold vS joinS
    congr 1
    apply ext_tl
    rw [join_eq, tl_join]
    congr 1
    rw [← List.map_reverse, List.map_map]
    have : (tl ∘ fun x => (⟨x.toArray⟩ : Str)) = (id : List Nat → List Nat) := rfl
    rw [this, List.map_id]⟩)
end
end Dn

set_option Elab.async false
set_option linter.all false
set_option maxRecDepth 100000
set_option maxHeartbeats 1000000
/-! Dn59: a text of the module by its name -/
namespace Dn
open PySem PySem.Spec PyProof.Rows L2
section
variable {X : Cx} {pos : Pos} {Γ : List Slot}
theorem de_globS {n : Str} {l : List Nat} (hm : ∃ t, X.mg n = some (.str ⟨l.toArray⟩ t)) (hg : Gl X n := by rfl) (hd : (n == ("__debug__" : Str)) = false := by decide) : DE X (.Name n pos) Γ .str l Γ := by
  obtain ⟨t, hm⟩ := hm
  exact de_glob (t := .str) (v := vS l) hm ⟨t, rfl⟩ (fun G => rfl) hg hd
theorem wk_refl : ∀ l : List Slot, Wk l l
  | [] => .nil
  | _ :: l => .eq (wk_refl l)
theorem wk_set : ∀ (i : Nat) (l : List Slot), Wk l (l.set i .un)
  | _, [] => .nil
  | 0, _ :: l => .un (wk_refl l)
  | i + 1, _ :: l => .eq (wk_set i l)
theorem ent_un {K : PySem.W.Frag} (i : Nat) : Ent K Γ (Γ.set i .un) := ent_wk (wk_set i Γ)
theorem ds_false {ρ : Type} {R : RI ρ} {st : Stmt} {o : Out ρ} (h : False) : DS X R st Γ o := h.elim
end
end Dn

set_option Elab.async false
set_option linter.all false
set_option maxRecDepth 100000
set_option maxHeartbeats 1000000
/-! Dn60: for k, v in d.items(), d a dict of the frame's own that is not looked at behind the loop; a name handed on -/
namespace L2
open PySem PySem.Spec PyProof.Rows
theorem pi_lockD {X : Cx} {tg e : Expr} {ti : TI} (h : PI X tg e ti) : PI X tg e (fun σ H R => ∃ d u, H d = some u ∧ Mut (some u) ∧ ∀ od, ti σ (upd H d (.frz od u)) R) :=
  ⟨fun pins s σ H R I hw => by
    obtain ⟨d, u, hd, mu, hw⟩ := hw
    obtain ⟨od, I1⟩ := I.lock hd mu
    exact h.run pins s σ _ R I1 (hw od)⟩
end L2
namespace Dn
open PySem PySem.Spec PyProof.Rows L2
section
variable {K : PySem.W.Frag} {F : Fx} {G H : Hp} {σ : L2.St} {Γ : List Slot}
/-- what slot i owns, from now on known and untouched, another thing at its place -/
theorem Wd.lockSlot {i : Nat} {o : Own} {p : Addr} {u : HO} (W : Wd K F G σ H Γ) (h : Γ[i]? = some (.ow false o)) (hp : σ[i]? = some (some (.ref p))) : Wd K F (upd G p u) σ (upd H p u) (Γ.set i .un) := by
  obtain ⟨p', ho, h1, h2, h3, h4, h5, h6⟩ := W.sl i _ h
  rw [hp] at h1; cases h1
  have sm : Same G (upd G p u) := same_upd h2
  have il : i < Γ.length := (List.getElem?_eq_some_iff.mp h).1
  have out : ∀ (j : Nat) (s : Slot), (Γ.set i .un)[j]? = some s → s.isOw = true → i ≠ j ∧ Γ[j]? = some s := fun j s e o => by
    have hj : i ≠ j := fun z => by subst z; rw [List.getElem?_set_self il] at e; cases e; cases o
    rw [List.getElem?_set_ne hj] at e
    exact ⟨hj, e⟩
  refine ⟨by rw [List.length_set]; exact W.len, fun b x e => ?_, fun b x e => ?_, fun b x e => ?_, fun j s e => ?_, fun j k s s' q ne e1 o1 e2 o2 q1 q2 => ?_, W.ns.go (fun j t x e => ⟨(set_ns rfl e).2, rfl⟩) sm fun a o' q1 q2 q3 q4 => ?_⟩
  · by_cases hb : b = p
    · subst hb; rw [upd_same] at e ⊢; exact e
    · rw [upd_ne hb] at e ⊢; exact W.gh b x e
  · have ne : b ≠ p := fun z => by subst z; rw [h3] at e; cases e
    rw [upd_ne ne]; exact W.th b x e
  · have ne : b ≠ p := fun z => by subst z; rw [h3] at e; cases e
    rw [upd_ne ne]; exact fun hn => W.tg b x e hn
  · by_cases hj : i = j
    · subst hj; rw [List.getElem?_set_self il] at e; cases e; trivial
    · rw [List.getElem?_set_ne hj] at e
      have q := W.sl j s e
      cases s with
      | un => exact q
      | fr t x => obtain ⟨v, e1, e2⟩ := q; exact ⟨v, e1, rep_mono sm t v x e2⟩
      | mb t x => exact fun y hy => by obtain ⟨v, e1, e2⟩ := q y hy; exact ⟨v, e1, rep_mono sm t v y e2⟩
      | ow pin o' =>
        obtain ⟨a, ho', d1, d2, d3, d4, d5, d6⟩ := q
        have ne : a ≠ p := fun z => by subst z; exact W.dj i j _ _ a hj h rfl e rfl hp d1
        exact ⟨a, ho', d1, by rw [upd_ne ne]; exact d2, d3, by rw [upd_ne ne]; exact d4, own_mono sm d5, d6⟩
      | ns t x => trivial
  · obtain ⟨_, a1⟩ := out j s e1 o1
    obtain ⟨_, a2⟩ := out k s' e2 o2
    exact W.dj j k s s' q ne a1 o1 a2 o2 q1 q2
  · have ne : a ≠ p := fun z => by subst z; exact q4 i _ h rfl hp
    exact ⟨by rw [upd_ne ne]; exact q1, by rw [upd_ne ne]; exact q2, q3, fun j s e o => q4 j s (set_ow rfl e o).2 o⟩
end
section
variable {X : Cx} {Γ : List Slot} {t : Ty} {kvs : List (Int × t.den)} {g : TG} {tgs : List Nat} {apos cpos npos tpos : Pos} {n : Str}
theorem di_itemsD (i : Nat) {elts : List Expr} {kk : Nat} {B : Int × t.den → List Slot → List Slot} (hg : EvG X.K g (.p2 .int t) B tgs) (h : Γ[i]? = some (.ow false (.dct t kvs)) := by rfl) (hN : X.N[i]? = some n := by rfl) (hv : Vis X.env.scope n := by first | exact Or.inl rfl | exact Or.inr (Or.inl rfl) | exact Or.inr (Or.inr rfl))
    (hd : (n == ("__debug__" : Str)) = false := by decide) (hcd : (n == ("__classdict__" : Str)) = false := by decide) (hbase : attributeBase (.Name n npos) "items" X.env (eval (.Name n npos) X.env) = eval (.Name n npos) X.env := by rfl) (hline : (apos.endLine == cpos.line) = true := by rfl) :
    DI X (.Tuple elts kk tpos) (.Call (.Attribute (.Name n npos) "items" apos) [] [] cpos) g Γ kvs B tgs (Γ.set i .un) := fun F G σ H W R q => by
  obtain ⟨p, ws, h1, h2, h3⟩ := W.ownedD h
  have el := repD_len h3
  have hp0 := W.sl i _ h
  obtain ⟨p', ho, d1, d2, d3, d4, d5, d6⟩ := hp0
  rw [h1] at d1; cases d1
  have gp : G p = none := d2
  refine wpi_of (pi_lockD (pi_items (pe_var hN hv hd hcd) hbase hline)) ⟨p, .dK ws, h2, trivial, fun od => ⟨.ref p, h1, p, od, ws, rfl, upd_same, ?_⟩⟩
  have sm : Same G (upd G p (.frz od (.dK ws))) := same_upd gp
  refine q (Iti p od ws) (upd G p (.frz od (.dK ws))) (upd H p (.frz od (.dK ws))) sm (W.lockSlot h h1) ⟨fun j G2 H2 s1 s2 hi => ⟨s2 _ _ (s1 _ _ upd_same), by omega⟩, fun G2 H2 s1 s2 => ⟨s2 _ _ (s1 _ _ upd_same), by omega⟩, fun F2 j y G2 σ2 H2 Γ2 v H3 Q s1 W2 hy y' k => ?_⟩
  obtain ⟨T, kx, vx, hk, rfl, nT, rfl⟩ := y'
  obtain ⟨w', e4, e5, e6⟩ := pair_get h3 hy
  rw [hk] at e4; cases e4
  have e5 : kx = Sum.inl y.1 := e5
  subst e5
  have sm2 := same_upd (o := .tup [kV (Sum.inl y.1), vx]) (W2.gn nT)
  exact hg F2 _ σ2 _ Γ2 (.ref T) y (W2.newG nT) ⟨T, _, vx, rfl, upd_same, rfl, rep_mono ((sm.trans s1).trans sm2) t vx y.2 e6⟩ Q fun σ' a' W3 => k _ σ' _ sm2 a' W3
end
end Dn

set_option Elab.async false
set_option linter.all false
set_option maxHeartbeats 1000000
/-! plain lemmas: loops, comprehensions, places -/
namespace Mt
open Dn (Lp Lp.step mapS AllS AllF AllL loopL IxOk ix ixN_ok rng chars MulOk DivOk joinS SzJ Sz RngOk)
theorem mapS_inv {S α β : Type} {P : S → α → Prop} {f : S → α → β × S} (I : Nat → S → Prop) (Qe : β → Prop) : ∀ (ys : List α) (n : Nat) (s : S), I n s → (∀ s y i, y ∈ ys → n ≤ i → i < n + ys.length → I i s → P s y ∧ I (i + 1) (f s y).2 ∧ Qe (f s y).1) →
    AllS P f s ys ∧ I (n + ys.length) (mapS f s ys).2 ∧ (∀ x ∈ (mapS f s ys).1, Qe x) ∧ (mapS f s ys).1.length = ys.length
  | [], n, s, h, _ => ⟨trivial, h, (fun x hx => nomatch hx), rfl⟩
  | y :: ys, n, s, h, k => by
    obtain ⟨k1, k2, k3⟩ := k s y n (List.mem_cons_self ..) (Nat.le_refl _) (by simp) h
    obtain ⟨r1, r2, r3, r4⟩ := mapS_inv I Qe ys (n + 1) (f s y).2 k2 (fun s' y' i hy hi hl hI => k s' y' i (List.mem_cons_of_mem _ hy) (by omega) (by simp only [List.length_cons]; omega) hI)
    refine ⟨⟨k1, r1⟩, ?_, ?_, by simp [mapS, r4]⟩
    · have e : n + (y :: ys).length = n + 1 + ys.length := by simp only [List.length_cons]; omega
      rw [e]; exact r2
    · intro x hx
      simp only [mapS, List.mem_cons] at hx
      rcases hx with rfl | hx
      · exact k3
      · exact r3 x hx
theorem fold_inv {S α : Type} {P : S → α → Prop} {f : S → α → S} (I : Nat → S → Prop) : ∀ (ys : List α) (n : Nat) (s : S), I n s → (∀ s y i, y ∈ ys → n ≤ i → i < n + ys.length → I i s → P s y ∧ I (i + 1) (f s y)) →
    AllF P f s ys ∧ I (n + ys.length) (ys.foldl f s)
  | [], n, s, h, _ => ⟨trivial, h⟩
  | y :: ys, n, s, h, k => by
    obtain ⟨k1, k2⟩ := k s y n (List.mem_cons_self ..) (Nat.le_refl _) (by simp) h
    obtain ⟨r1, r2⟩ := fold_inv I ys (n + 1) (f s y) k2 (fun s' y' i hy hi hl hI => k s' y' i (List.mem_cons_of_mem _ hy) (by omega) (by simp only [List.length_cons]; omega) hI)
    refine ⟨⟨k1, r1⟩, ?_⟩
    have e : n + (y :: ys).length = n + 1 + ys.length := by simp only [List.length_cons]; omega
    rw [e]; exact r2
theorem loop_inv {S α ρ : Type} {P : S → α → Prop} {f : S → α → Lp S ρ} (I : S → Prop) : ∀ (ys : List α) (s : S), I s → (∀ s y, y ∈ ys → I s → P s y ∧ ∃ s', f s y = .go s' ∧ I s') →
    AllL P f s ys ∧ ∃ s', loopL f s ys = .go s' ∧ I s'
  | [], s, h, _ => ⟨trivial, s, rfl, h⟩
  | y :: ys, s, h, k => by
    obtain ⟨k1, s', k2, k3⟩ := k s y (List.mem_cons_self ..) h
    obtain ⟨r1, s2, r2, r3⟩ := loop_inv I ys s' k3 (fun a b c d => k a b (List.mem_cons_of_mem _ c) d)
    refine ⟨⟨k1, ?_⟩, s2, ?_, r3⟩
    · rw [k2]; exact r1
    · show (f s y).step _ = _
      rw [k2]; exact r2
theorem ix_lt {n : Nat} {i : Int} (h : IxOk n i) : ix n i < n := (ixN_ok h).2
theorem ixOk {n : Nat} {i : Int} (h0 : 0 ≤ i) (h1 : i < n) : IxOk n i := ⟨by omega, h1⟩
theorem get_mem {α : Type} {d : α} {xs : List α} {i : Int} (h : IxOk xs.length i) : Dn.get d xs i ∈ xs := by
  have := ix_lt h
  unfold Dn.get
  rw [List.getElem?_eq_getElem this]
  exact List.getElem_mem ..
theorem rng_mem {lo hi y : Int} (h : y ∈ rng lo hi) : lo ≤ y ∧ y < hi := by
  unfold rng at h
  obtain ⟨k, h1, rfl⟩ := List.mem_map.mp h
  rw [List.mem_range] at h1
  omega
theorem log2_lt {n k : Nat} (h : n < 2 ^ k) (hk : 0 < k) : n.log2 < k := by
  by_cases h0 : n = 0
  · subst h0; simpa using hk
  · exact (Nat.log2_lt h0).mpr h
theorem mulOk {i j : Int} (h1 : i.natAbs < 2 ^ 64) (h2 : j.natAbs < 2 ^ 64) : MulOk i j := by
  have a := log2_lt h1 (by omega)
  have b := log2_lt h2 (by omega)
  unfold MulOk; omega
theorem divOk {j : Int} (h1 : 0 < j) (h2 : j.natAbs < 2 ^ 64) : DivOk j := ⟨h1, by have := log2_lt h2 (by omega); omega⟩
theorem chars_mem {x : List Nat} {y : List Nat} (h : y ∈ chars x) : ∃ c ∈ x, y = [c] := by
  unfold chars at h
  obtain ⟨c, h1, rfl⟩ := List.mem_map.mp h
  exact ⟨c, h1, rfl⟩
theorem joinS_nil : ∀ xs : List (List Nat), joinS [] xs = xs.flatten
  | [] => rfl
  | [x] => by simp [joinS, TL.joinL]
  | x :: y :: r => by
    have := joinS_nil (y :: r)
    simp only [joinS] at this
    simp [joinS, TL.joinL, this]
theorem len_flat {xs : List (List Nat)} {m : Nat} (h : ∀ x ∈ xs, x.length ≤ m) : (xs.map List.length).sum ≤ xs.length * m := by
  induction xs with
  | nil => simp
  | cons x xs ih =>
    have h1 := h x (List.mem_cons_self ..)
    have h2 := ih (fun y hy => h y (List.mem_cons_of_mem _ hy))
    simp only [List.map_cons, List.sum_cons, List.length_cons, Nat.succ_mul, Nat.add_mul]
    omega
theorem szJ_nil {xs : List (List Nat)} {m : Nat} (h : ∀ x ∈ xs, x.length ≤ m) (hm : xs.length * m ≤ 100000) : SzJ [] xs := by
  have := len_flat h
  unfold SzJ
  simp only [List.length_nil, Nat.mul_zero]
  omega
theorem cut_len {α : Type} {xs : List α} {lo hi : Option Int} : (Dn.cut xs lo hi).length ≤ xs.length := by
  unfold Dn.cut
  rw [List.length_take, List.length_drop]
  omega
theorem cut_mem {α : Type} {xs : List α} {lo hi : Option Int} {x : α} (h : x ∈ Dn.cut xs lo hi) : x ∈ xs := List.mem_of_mem_drop (List.mem_of_mem_take h)
/-- up to a place and on from it -/
theorem cut_both {α : Type} {xs : List α} {k : Int} (h0 : 0 ≤ k) : (Dn.cut xs none (some k)).length + (Dn.cut xs (some k) none).length ≤ xs.length := by
  unfold Dn.cut HT.sIx
  simp only [List.length_take, List.length_drop]
  repeat' split
  all_goals omega
theorem loop_any {α ρ : Type} {c : α → Bool} {r : ρ} : ∀ ys : List α, loopL (fun (_ : Unit) y => bif c y then Lp.ret r else Lp.go ()) () ys = bif ys.any c then .ret r else .go ()
  | [] => rfl
  | y :: ys => by
    have := loop_any (c := c) (r := r) ys
    show Lp.step (bif c y then Lp.ret r else Lp.go ()) _ = _
    cases h : c y with
    | true => simp [h, Lp.step]
    | false => simp only [List.any_cons, h, Bool.false_or, cond_false]; exact this
theorem all_of {S α ρ : Type} {P : S → α → Prop} {f : S → α → Lp S ρ} : ∀ {ys : List α} {s : S}, (∀ s y, y ∈ ys → P s y) → AllL P f s ys
  | [], _, _ => trivial
  | y :: ys, s, h => ⟨h s y (List.mem_cons_self ..), by
    cases e : f s y with
    | go s' => exact all_of fun a b c => h a b (List.mem_cons_of_mem _ c)
    | stop s' => trivial
    | ret x => trivial⟩
theorem i20 : IxOk 2 0 := ⟨by decide, by decide⟩
theorem i21 : IxOk 2 1 := ⟨by decide, by decide⟩
theorem letters : ∀ c ∈ [97, 98, 99, 100, 101, 102, 103, 104, 105, 106, 107, 108, 109, 110, 111, 112, 113, 114, 115, 116, 117, 118, 119, 120, 121, 122], 97 ≤ c ∧ c ≤ 122 := by decide
end Mt

set_option Elab.async false
set_option linter.all false
set_option maxHeartbeats 1000000
/-! runs: a condition and a value; what is shown of them -/
namespace Mt
open Dn (whileV whileN AllW OkW EndW whileV_eq Lp Lp.step mapS AllS AllF AllL loopL IxOk ix ixN_ok rng chars MulOk DivOk joinS SzJ Sz RngOk Lp.fin Lp.done Lp.onGo)
structure Rn (α : Type) where
  ok : Prop
  val : α
namespace Rn
variable {α β S ρ T : Type}
@[irreducible] def pure (x : α) : Rn α := ⟨True, x⟩
@[irreducible] def chk (c : Prop) (r : Rn α) : Rn α := ⟨c ∧ r.ok, r.val⟩
@[irreducible] def bind (x : Rn α) (f : α → Rn β) : Rn β := ⟨x.ok ∧ (f x.val).ok, (f x.val).val⟩
@[irreducible] def brTF (c : Bool) (A B : Rn α) (K : α → Rn β) : Rn β := ⟨(c = true → A.ok) ∧ (c = false → B.ok) ∧ (K (bif c then A.val else B.val)).ok, (K (bif c then A.val else B.val)).val⟩
@[irreducible] def brT (c : Bool) (A B : Rn α) (K : α → Rn β) : Rn β := ⟨(c = true → A.ok) ∧ (K (bif c then A.val else B.val)).ok, (K (bif c then A.val else B.val)).val⟩
@[irreducible] def brF (c : Bool) (A B : Rn α) (K : α → Rn β) : Rn β := ⟨(c = false → B.ok) ∧ (K (bif c then A.val else B.val)).ok, (K (bif c then A.val else B.val)).val⟩
@[irreducible] def br (c : Bool) (A B : Rn α) (K : α → Rn β) : Rn β := ⟨(K (bif c then A.val else B.val)).ok, (K (bif c then A.val else B.val)).val⟩
@[irreducible] def ifTF (c : Bool) (A B : Rn α) : Rn α := ⟨(c = true → A.ok) ∧ (c = false → B.ok) ∧ True, bif c then A.val else B.val⟩
@[irreducible] def ifT (c : Bool) (A B : Rn α) : Rn α := ⟨(c = true → A.ok) ∧ True, bif c then A.val else B.val⟩
@[irreducible] def ifF (c : Bool) (A B : Rn α) : Rn α := ⟨(c = false → B.ok) ∧ True, bif c then A.val else B.val⟩
@[irreducible] def «if» (c : Bool) (A B : Rn α) : Rn α := ⟨True, bif c then A.val else B.val⟩
@[irreducible] def fold (f : S → α → Rn S) (s0 : S) (ys : List α) (K : S → Rn β) : Rn β := ⟨AllF (fun s y => (f s y).ok) (fun s y => (f s y).val) s0 ys ∧ (K (ys.foldl (fun s y => (f s y).val) s0)).ok, (K (ys.foldl (fun s y => (f s y).val) s0)).val⟩
@[irreducible] def maps (f : S → α → Rn (T × S)) (s0 : S) (ys : List α) (K : List T × S → Rn β) : Rn β := ⟨AllS (fun s y => (f s y).ok) (fun s y => (f s y).val) s0 ys ∧ (K (mapS (fun s y => (f s y).val) s0 ys)).ok, (K (mapS (fun s y => (f s y).val) s0 ys)).val⟩
@[irreducible] def lpF (f : S → α → Rn (Lp S ρ)) (s0 : S) (ys : List α) (K : S → Rn ρ) : Rn ρ := ⟨AllL (fun s y => (f s y).ok) (fun s y => (f s y).val) s0 ys ∧ (loopL (fun s y => (f s y).val) s0 ys).done (fun q => (K q).ok), (loopL (fun s y => (f s y).val) s0 ys).fin fun q => (K q).val⟩
@[irreducible] def lpT (f : S → α → Rn (Lp S ρ)) (s0 : S) (ys : List α) (K : S → Rn (Lp T ρ)) : Rn (Lp T ρ) := ⟨AllL (fun s y => (f s y).ok) (fun s y => (f s y).val) s0 ys ∧ (loopL (fun s y => (f s y).val) s0 ys).done (fun q => (K q).ok), (loopL (fun s y => (f s y).val) s0 ys).then fun q => (K q).val⟩
@[irreducible] def lpFE (f : S → α → Rn (Lp S ρ)) (s0 : S) (ys : List α) (K : S → Rn ρ) : Rn ρ := ⟨AllL (fun s y => (f s y).ok) (fun s y => (f s y).val) s0 ys ∧ True, (loopL (fun s y => (f s y).val) s0 ys).fin fun q => (K q).val⟩
@[irreducible] def lpTE (f : S → α → Rn (Lp S ρ)) (s0 : S) (ys : List α) (K : S → Rn (Lp T ρ)) : Rn (Lp T ρ) := ⟨AllL (fun s y => (f s y).ok) (fun s y => (f s y).val) s0 ys ∧ True, (loopL (fun s y => (f s y).val) s0 ys).then fun q => (K q).val⟩
@[irreducible] noncomputable def whl (c : S → Rn Bool) (f : S → Rn S) (s0 : S) (K : S → Rn β) : Rn β := ⟨AllW (fun s => (c s).ok) (fun s => (f s).ok) (fun s => (c s).val) (fun s => (f s).val) s0 ∧ (K (whileV (fun s => (c s).val) (fun s => (f s).val) s0)).ok, (K (whileV (fun s => (c s).val) (fun s => (f s).val) s0)).val⟩
end Rn
theorem fold_inv' {S α : Type} {P : S → α → Prop} {f : S → α → S} (I : Nat → S → Prop) : ∀ (zs ys : List α) (n : Nat) (s : S), zs.drop n = ys → I n s → (∀ s y i, zs[i]? = some y → I i s → P s y ∧ I (i + 1) (f s y)) →
    AllF P f s ys ∧ I (n + ys.length) (ys.foldl f s)
  | _, [], n, s, _, h, _ => ⟨trivial, h⟩
  | zs, y :: ys, n, s, e, h, k => by
    have hy : zs[n]? = some y := by rw [← List.head?_drop, e]; rfl
    obtain ⟨k1, k2⟩ := k s y n hy h
    obtain ⟨r1, r2⟩ := fold_inv' I zs ys (n + 1) (f s y) (by rw [← List.drop_drop, e]; rfl) k2 k
    refine ⟨⟨k1, r1⟩, ?_⟩
    have e : n + (y :: ys).length = n + 1 + ys.length := by simp only [List.length_cons]; omega
    rw [e]; exact r2
theorem mapS_inv' {S α β : Type} {P : S → α → Prop} {f : S → α → β × S} (I : Nat → S → Prop) (Qe : Nat → β → Prop) : ∀ (zs ys : List α) (n : Nat) (s : S), zs.drop n = ys → I n s → (∀ s y i, zs[i]? = some y → I i s → P s y ∧ I (i + 1) (f s y).2 ∧ Qe i (f s y).1) →
    AllS P f s ys ∧ I (n + ys.length) (mapS f s ys).2 ∧ (∀ j x, (mapS f s ys).1[j]? = some x → Qe (n + j) x) ∧ (mapS f s ys).1.length = ys.length
  | _, [], n, s, _, h, _ => ⟨trivial, h, (fun j x hx => by simp [mapS] at hx), rfl⟩
  | zs, y :: ys, n, s, e, h, k => by
    have hy : zs[n]? = some y := by rw [← List.head?_drop, e]; rfl
    obtain ⟨k1, k2, k3⟩ := k s y n hy h
    obtain ⟨r1, r2, r3, r4⟩ := mapS_inv' I Qe zs ys (n + 1) (f s y).2 (by rw [← List.drop_drop, e]; rfl) k2 k
    refine ⟨⟨k1, r1⟩, ?_, ?_, by simp [mapS, r4]⟩
    · have e : n + (y :: ys).length = n + 1 + ys.length := by simp only [List.length_cons]; omega
      rw [e]; exact r2
    · intro j x hx
      cases j with
      | zero => simp [mapS] at hx; subst hx; exact k3
      | succ j =>
        have := r3 j x (by simpa [mapS] using hx)
        rwa [show n + 1 + j = n + (j + 1) by omega] at this
/-- the run is let by, and its value is so -/
def Sp {α : Type} (r : Rn α) (P : α → Prop) : Prop := r.ok ∧ P r.val
namespace Sp
variable {α β S ρ T : Type} {P : α → Prop} {Pb : β → Prop}
theorem of {r : Rn α} {ok : Prop} {v : α} (e : r = ⟨ok, v⟩) (h : ok ∧ P v) : Sp r P := by subst e; exact h
theorem to {r : Rn α} {ok : Prop} {v : α} (h : Sp r P) (e : r = ⟨ok, v⟩) : ok ∧ P v := by subst e; exact h
theorem imp {r : Rn α} {Q : α → Prop} (h : Sp r Q) (k : ∀ x, Q x → P x) : Sp r P := ⟨h.1, k _ h.2⟩
theorem ret {x : α} (h : P x) : Sp (Rn.pure x) P := by with_unfolding_all exact ⟨trivial, h⟩
theorem chk {c : Prop} {r : Rn α} (hc : c) (h : Sp r P) : Sp (Rn.chk c r) P := by with_unfolding_all exact ⟨⟨hc, h.1⟩, h.2⟩
theorem bind {x : Rn α} {f : α → Rn β} (h : Sp x P) (k : ∀ a, P a → Sp (f a) Pb) : Sp (Rn.bind x f) Pb := by with_unfolding_all exact ⟨⟨h.1, (k _ h.2).1⟩, (k _ h.2).2⟩
section
variable {c : Bool} {A B : Rn α} {K : α → Rn β}
theorem brTF (h1 : c = true → Sp A fun a => Sp (K a) Pb) (h2 : c = false → Sp B fun a => Sp (K a) Pb) : Sp (Rn.brTF c A B K) Pb := by
  cases c with
  | true => with_unfolding_all exact ⟨⟨fun _ => (h1 rfl).1, (fun z => nomatch z), (h1 rfl).2.1⟩, (h1 rfl).2.2⟩
  | false => with_unfolding_all exact ⟨⟨(fun z => nomatch z), fun _ => (h2 rfl).1, (h2 rfl).2.1⟩, (h2 rfl).2.2⟩
theorem brT (h1 : c = true → Sp A fun a => Sp (K a) Pb) (h2 : c = false → Sp B fun a => Sp (K a) Pb) : Sp (Rn.brT c A B K) Pb := by
  cases c with
  | true => with_unfolding_all exact ⟨⟨fun _ => (h1 rfl).1, (h1 rfl).2.1⟩, (h1 rfl).2.2⟩
  | false => with_unfolding_all exact ⟨⟨(fun z => nomatch z), (h2 rfl).2.1⟩, (h2 rfl).2.2⟩
theorem brF (h1 : c = true → Sp A fun a => Sp (K a) Pb) (h2 : c = false → Sp B fun a => Sp (K a) Pb) : Sp (Rn.brF c A B K) Pb := by
  cases c with
  | true => with_unfolding_all exact ⟨⟨(fun z => nomatch z), (h1 rfl).2.1⟩, (h1 rfl).2.2⟩
  | false => with_unfolding_all exact ⟨⟨fun _ => (h2 rfl).1, (h2 rfl).2.1⟩, (h2 rfl).2.2⟩
theorem br (h1 : c = true → Sp A fun a => Sp (K a) Pb) (h2 : c = false → Sp B fun a => Sp (K a) Pb) : Sp (Rn.br c A B K) Pb := by
  cases c with
  | true => with_unfolding_all exact (h1 rfl).2
  | false => with_unfolding_all exact (h2 rfl).2
/-- .. the ways joined by Q -/
theorem brTFq (Q : α → Prop) (h1 : c = true → Sp A Q) (h2 : c = false → Sp B Q) (k : ∀ a, Q a → Sp (K a) Pb) : Sp (Rn.brTF c A B K) Pb := brTF (fun e => (h1 e).imp k) (fun e => (h2 e).imp k)
theorem brTq (Q : α → Prop) (h1 : c = true → Sp A Q) (h2 : c = false → Sp B Q) (k : ∀ a, Q a → Sp (K a) Pb) : Sp (Rn.brT c A B K) Pb := brT (fun e => (h1 e).imp k) (fun e => (h2 e).imp k)
theorem brFq (Q : α → Prop) (h1 : c = true → Sp A Q) (h2 : c = false → Sp B Q) (k : ∀ a, Q a → Sp (K a) Pb) : Sp (Rn.brF c A B K) Pb := brF (fun e => (h1 e).imp k) (fun e => (h2 e).imp k)
theorem brq (Q : α → Prop) (h1 : c = true → Sp A Q) (h2 : c = false → Sp B Q) (k : ∀ a, Q a → Sp (K a) Pb) : Sp (Rn.br c A B K) Pb := br (fun e => (h1 e).imp k) (fun e => (h2 e).imp k)
theorem ifTF (h1 : c = true → Sp A P) (h2 : c = false → Sp B P) : Sp (Rn.ifTF c A B) P := by
  cases c with
  | true => with_unfolding_all exact ⟨⟨fun _ => (h1 rfl).1, (fun z => nomatch z), trivial⟩, (h1 rfl).2⟩
  | false => with_unfolding_all exact ⟨⟨(fun z => nomatch z), fun _ => (h2 rfl).1, trivial⟩, (h2 rfl).2⟩
theorem ifT (h1 : c = true → Sp A P) (h2 : c = false → Sp B P) : Sp (Rn.ifT c A B) P := by
  cases c with
  | true => with_unfolding_all exact ⟨⟨fun _ => (h1 rfl).1, trivial⟩, (h1 rfl).2⟩
  | false => with_unfolding_all exact ⟨⟨(fun z => nomatch z), trivial⟩, (h2 rfl).2⟩
theorem ifF (h1 : c = true → Sp A P) (h2 : c = false → Sp B P) : Sp (Rn.ifF c A B) P := by
  cases c with
  | true => with_unfolding_all exact ⟨⟨(fun z => nomatch z), trivial⟩, (h1 rfl).2⟩
  | false => with_unfolding_all exact ⟨⟨fun _ => (h2 rfl).1, trivial⟩, (h2 rfl).2⟩
theorem if0 (h1 : c = true → Sp A P) (h2 : c = false → Sp B P) : Sp (Rn.if c A B) P := by
  cases c with
  | true => with_unfolding_all exact ⟨trivial, (h1 rfl).2⟩
  | false => with_unfolding_all exact ⟨trivial, (h2 rfl).2⟩
end
theorem fold {f : S → α → Rn S} {s0 : S} {ys : List α} {K : S → Rn β} (I : Nat → S → Prop) (h0 : I 0 s0) (hs : ∀ s y i, y ∈ ys → i < ys.length → ys[i]? = some y → I i s → Sp (f s y) (I (i + 1))) (k : ∀ s, I ys.length s → Sp (K s) Pb) : Sp (Rn.fold f s0 ys K) Pb := by
  obtain ⟨a, b⟩ := fold_inv' (P := fun s y => (f s y).ok) (f := fun s y => (f s y).val) I ys ys 0 s0 rfl h0 fun s y i hy h => hs s y i (List.mem_of_getElem? hy) (List.getElem?_eq_some_iff.mp hy).1 hy h
  rw [Nat.zero_add] at b
  with_unfolding_all exact ⟨⟨a, (k _ b).1⟩, (k _ b).2⟩
/-- .. each item told with its number -/
theorem mapsI {f : S → α → Rn (T × S)} {s0 : S} {ys : List α} {K : List T × S → Rn β} (I : Nat → S → Prop) (Qe : Nat → T → Prop) (h0 : I 0 s0) (hs : ∀ s y i, y ∈ ys → i < ys.length → ys[i]? = some y → I i s → Sp (f s y) fun r => I (i + 1) r.2 ∧ Qe i r.1)
    (k : ∀ l s, I ys.length s → l.length = ys.length → (∀ j x, l[j]? = some x → Qe j x) → Sp (K (l, s)) Pb) : Sp (Rn.maps f s0 ys K) Pb := by
  obtain ⟨a, b, c, d⟩ := mapS_inv' (P := fun s y => (f s y).ok) (f := fun s y => (f s y).val) I Qe ys ys 0 s0 rfl h0 fun s y i hy h => hs s y i (List.mem_of_getElem? hy) (List.getElem?_eq_some_iff.mp hy).1 hy h
  rw [Nat.zero_add] at b
  have z := k _ _ b d fun j x h => by have := c j x h; rwa [Nat.zero_add] at this
  with_unfolding_all exact ⟨⟨a, z.1⟩, z.2⟩
theorem maps {f : S → α → Rn (T × S)} {s0 : S} {ys : List α} {K : List T × S → Rn β} (I : Nat → S → Prop) (Qe : T → Prop) (h0 : I 0 s0) (hs : ∀ s y i, y ∈ ys → i < ys.length → ys[i]? = some y → I i s → Sp (f s y) fun r => I (i + 1) r.2 ∧ Qe r.1)
    (k : ∀ l s, I ys.length s → l.length = ys.length → (∀ x ∈ l, Qe x) → Sp (K (l, s)) Pb) : Sp (Rn.maps f s0 ys K) Pb :=
  mapsI I (fun _ => Qe) h0 hs fun l s h e q => k l s h e fun x hx => by
    obtain ⟨j, hj⟩ := List.getElem?_of_mem hx
    exact q j x hj
/-- a loop that may be left: I goes on, J behind a break, R behind a return -/
def LpQ (I : S → Prop) (J : S → Prop) (R : ρ → Prop) : Lp S ρ → Prop
  | .go s => I s
  | .stop s => J s
  | .ret x => R x
theorem loop {f : S → α → Rn (Lp S ρ)} (I : Nat → S → Prop) (J : S → Prop) (R : ρ → Prop) : ∀ (zs ys : List α) (n : Nat) (s : S), zs.drop n = ys → I n s → (∀ s y i, zs[i]? = some y → I i s → Sp (f s y) (LpQ (I (i + 1)) J R)) →
    AllL (fun s y => (f s y).ok) (fun s y => (f s y).val) s ys ∧ LpQ (I (n + ys.length)) J R (loopL (fun s y => (f s y).val) s ys)
  | _, [], n, s, _, h, _ => ⟨trivial, h⟩
  | zs, y :: ys, n, s, e0, h, k => by
    have hy : zs[n]? = some y := by rw [← List.head?_drop, e0]; rfl
    obtain ⟨k1, k2⟩ := k s y n hy h
    show ((f s y).ok ∧ _) ∧ LpQ _ J R ((f s y).val.step _)
    have e : n + (y :: ys).length = n + 1 + ys.length := by simp only [List.length_cons]; omega
    rw [e]
    cases hv : (f s y).val with
    | go s' =>
      rw [hv] at k2
      obtain ⟨r1, r2⟩ := loop I J R zs ys (n + 1) s' (by rw [← List.drop_drop, e0]; rfl) k2 k
      refine ⟨⟨k1, ?_⟩, r2⟩
      show Lp.onGo (f s y).val _
      rw [hv]; exact r1
    | stop s' => rw [hv] at k2; refine ⟨⟨k1, ?_⟩, k2⟩; show Lp.onGo (f s y).val _; rw [hv]; trivial
    | ret x => rw [hv] at k2; refine ⟨⟨k1, ?_⟩, k2⟩; show Lp.onGo (f s y).val _; rw [hv]; trivial
section
variable {f : S → α → Rn (Lp S ρ)} {s0 : S} {ys : List α} {Pr : ρ → Prop}
theorem lpF {K : S → Rn ρ} (I : Nat → S → Prop) (J : S → Prop) (h0 : I 0 s0) (hs : ∀ s y i, y ∈ ys → i < ys.length → ys[i]? = some y → I i s → Sp (f s y) (LpQ (I (i + 1)) J Pr)) (k : ∀ s, I ys.length s ∨ J s → Sp (K s) Pr) : Sp (Rn.lpF f s0 ys K) Pr := by
  obtain ⟨a, b⟩ := loop I J Pr ys ys 0 s0 rfl h0 fun s y i hy h => hs s y i (List.mem_of_getElem? hy) (List.getElem?_eq_some_iff.mp hy).1 hy h
  rw [Nat.zero_add] at b
  with_unfolding_all show (_ ∧ Lp.done (loopL _ _ _) _) ∧ Pr (Lp.fin (loopL _ _ _) _)
  generalize loopL _ _ _ = r at *
  cases r with
  | go s => with_unfolding_all exact ⟨⟨a, (k s (.inl b)).1⟩, (k s (.inl b)).2⟩
  | stop s => with_unfolding_all exact ⟨⟨a, (k s (.inr b)).1⟩, (k s (.inr b)).2⟩
  | ret x => with_unfolding_all exact ⟨⟨a, trivial⟩, b⟩
theorem lpFE {K : S → Rn ρ} (I : Nat → S → Prop) (J : S → Prop) (h0 : I 0 s0) (hs : ∀ s y i, y ∈ ys → i < ys.length → ys[i]? = some y → I i s → Sp (f s y) (LpQ (I (i + 1)) J Pr)) (k : ∀ s, I ys.length s ∨ J s → Sp (K s) Pr) : Sp (Rn.lpFE f s0 ys K) Pr := by
  have := lpF I J h0 hs k
  with_unfolding_all exact ⟨⟨this.1.1, trivial⟩, this.2⟩
theorem lpT {K : S → Rn (Lp T ρ)} {PT : Lp T ρ → Prop} (I : Nat → S → Prop) (J : S → Prop) (R : ρ → Prop) (h0 : I 0 s0) (hs : ∀ s y i, y ∈ ys → i < ys.length → ys[i]? = some y → I i s → Sp (f s y) (LpQ (I (i + 1)) J R)) (k : ∀ s, I ys.length s ∨ J s → Sp (K s) PT) (kr : ∀ x, R x → PT (.ret x)) : Sp (Rn.lpT f s0 ys K) PT := by
  obtain ⟨a, b⟩ := loop I J R ys ys 0 s0 rfl h0 fun s y i hy h => hs s y i (List.mem_of_getElem? hy) (List.getElem?_eq_some_iff.mp hy).1 hy h
  rw [Nat.zero_add] at b
  with_unfolding_all show (_ ∧ Lp.done (loopL _ _ _) _) ∧ PT (Lp.then (loopL _ _ _) _)
  generalize loopL _ _ _ = r at *
  cases r with
  | go s => with_unfolding_all exact ⟨⟨a, (k s (.inl b)).1⟩, (k s (.inl b)).2⟩
  | stop s => with_unfolding_all exact ⟨⟨a, (k s (.inr b)).1⟩, (k s (.inr b)).2⟩
  | ret x => with_unfolding_all exact ⟨⟨a, trivial⟩, kr _ b⟩
theorem lpTE {K : S → Rn (Lp T ρ)} {PT : Lp T ρ → Prop} (I : Nat → S → Prop) (J : S → Prop) (R : ρ → Prop) (h0 : I 0 s0) (hs : ∀ s y i, y ∈ ys → i < ys.length → ys[i]? = some y → I i s → Sp (f s y) (LpQ (I (i + 1)) J R)) (k : ∀ s, I ys.length s ∨ J s → Sp (K s) PT) (kr : ∀ x, R x → PT (.ret x)) : Sp (Rn.lpTE f s0 ys K) PT := by
  have := lpT I J R h0 hs k kr
  with_unfolding_all exact ⟨⟨this.1.1, trivial⟩, this.2⟩
end
theorem whl {c : S → Rn Bool} {f : S → Rn S} {s0 : S} {K : S → Rn β} (I : S → Prop) (μ : S → Nat) (h0 : I s0) (hc : ∀ s, I s → (c s).ok) (hs : ∀ s, I s → (c s).val = true → Sp (f s) fun s' => I s' ∧ μ s' < μ s) (k : ∀ s, I s → (c s).val = false → Sp (K s) Pb) : Sp (Rn.whl c f s0 K) Pb := by
  have key : ∀ (n : Nat) (s : S), I s → μ s < n → ∃ m, OkW (fun s => (c s).ok) (fun s => (f s).ok) (fun s => (c s).val) (fun s => (f s).val) m s ∧ I (whileN (fun s => (c s).val) (fun s => (f s).val) m s) ∧ (c (whileN (fun s => (c s).val) (fun s => (f s).val) m s)).val = false := by
    intro n
    induction n with
    | zero => intro s _ h; omega
    | succ n ih =>
      intro s hI hm
      cases e : (c s).val with
      | false => exact ⟨0, ⟨hc s hI, e⟩, hI, e⟩
      | true =>
        have h1 := hs s hI e
        obtain ⟨m, q1, q2, q3⟩ := ih (f s).val h1.2.1 (by have := h1.2.2; omega)
        have ew : whileN (fun s => (c s).val) (fun s => (f s).val) (m + 1) s = whileN (fun s => (c s).val) (fun s => (f s).val) m (f s).val := by
          show (bif (c s).val then _ else _) = _
          rw [e]; rfl
        exact ⟨m + 1, ⟨hc s hI, fun _ => ⟨h1.1, q1⟩⟩, by rw [ew]; exact q2, by rw [ew]; exact q3⟩
  obtain ⟨m, q1, q2, q3⟩ := key (μ s0 + 1) s0 h0 (Nat.lt_succ_self _)
  have z := k _ q2 q3
  rw [← whileV_eq q1] at z
  with_unfolding_all exact ⟨⟨⟨m, q1⟩, z.1⟩, z.2⟩
end Sp
end Mt

set_option Elab.async false
set_option linter.all false
set_option maxRecDepth 100000
set_option maxHeartbeats 20000000
namespace Wk
open PySem PySem.Spec PyProof.Rows L2 TL Dn
instance iuInh {α β : Type} [Inhabited α] : Inhabited (α ⊕ β) := ⟨.inl default⟩
noncomputable section
def m__law_box_19 (x22_law_cell : Int) (x23_law_seed : Int) : (List Int) := ([(Dn.get (default : Int) ([(0 : Int), x22_law_cell] : List Int) (b2z (decide (((10 : Int) ^ Int.toNat (18 : Int)) ≤ x22_law_cell)))), x23_law_seed] : List Int)
def ok__law_box_19 (x22_law_cell : Int) (x23_law_seed : Int) : Prop := ((IxOk (([(0 : Int), x22_law_cell] : List Int)).length (b2z (decide (((10 : Int) ^ Int.toNat (18 : Int)) ≤ x22_law_cell)))) ∧ True)
def m__law_box_14 (x16_law_k : Int) (x17_law_cell : Int) : (List Int) := (m__law_box_19 (x17_law_cell) ((((((x17_law_cell % (2147483629 : Int)) * (48271 : Int)) + ((40692 : Int) * x16_law_k)) % (2147483629 : Int)) + (1 : Int))))
def ok__law_box_14 (x16_law_k : Int) (x17_law_cell : Int) : Prop := ((MulOk (x17_law_cell % (2147483629 : Int)) (48271 : Int)) ∧ ((MulOk (40692 : Int) x16_law_k) ∧ (ok__law_box_19 (x17_law_cell) ((((((x17_law_cell % (2147483629 : Int)) * (48271 : Int)) + ((40692 : Int) * x16_law_k)) % (2147483629 : Int)) + (1 : Int))))))
def m__law_box_1 (x2_law_script : (List Int)) (x3_law_k : Int) (x4_law_cell : Int) : (List Int) := (let j12 := (bif (decide (x3_law_k < ((x2_law_script).length : Int))) then (Dn.get 0 x2_law_script x3_law_k) else (let j10 := (bif (decide ((0 : Int) < ((x2_law_script).length : Int))) then (x4_law_cell + (((Dn.get 0 x2_law_script (x3_law_k % ((x2_law_script).length : Int))) % (2147483629 : Int)) * (69623 : Int))) else x4_law_cell); j10)); (m__law_box_14 (x3_law_k) (j12)))
def ok__law_box_1 (x2_law_script : (List Int)) (x3_law_k : Int) (x4_law_cell : Int) : Prop := (((decide (x3_law_k < ((x2_law_script).length : Int))) = true → ((IxOk (x2_law_script).length x3_law_k) ∧ True)) ∧ (((decide (x3_law_k < ((x2_law_script).length : Int))) = false → (((decide ((0 : Int) < ((x2_law_script).length : Int))) = true → (((0:Int) < ((x2_law_script).length : Int)) ∧ ((IxOk (x2_law_script).length (x3_law_k % ((x2_law_script).length : Int))) ∧ ((MulOk ((Dn.get 0 x2_law_script (x3_law_k % ((x2_law_script).length : Int))) % (2147483629 : Int)) (69623 : Int)) ∧ True)))) ∧ True)) ∧ (let j12 := (bif (decide (x3_law_k < ((x2_law_script).length : Int))) then (Dn.get 0 x2_law_script x3_law_k) else (let j10 := (bif (decide ((0 : Int) < ((x2_law_script).length : Int))) then (x4_law_cell + (((Dn.get 0 x2_law_script (x3_law_k % ((x2_law_script).length : Int))) % (2147483629 : Int)) * (69623 : Int))) else x4_law_cell); j10)); (ok__law_box_14 (x3_law_k) (j12)))))
def m__law_box (x_law_script : (List Int)) (x_law_k : Int) : (List Int) := (m__law_box_1 (x_law_script) (x_law_k) ((((7919 : Int) * x_law_k) + (11 : Int))))
def ok__law_box (x_law_script : (List Int)) (x_law_k : Int) : Prop := ((MulOk (7919 : Int) x_law_k) ∧ (ok__law_box_1 (x_law_script) (x_law_k) ((((7919 : Int) * x_law_k) + (11 : Int)))))
def m__law_take_7 (x8_law_box_here : (List Int)) (x10_law_digit : Int) : (Int × List Int) := (x10_law_digit, x8_law_box_here)
def ok__law_take_7 (x8_law_box_here : (List Int)) (x10_law_digit : Int) : Prop := True
def m__law_take_2 (x3_law_box_here : (List Int)) (x4_law_many : Int) (x5_law_digit : Int) : (Int × List Int) := (m__law_take_7 (((x3_law_box_here).set (ix (x3_law_box_here).length (0 : Int)) ((Dn.get (default : Int) x3_law_box_here (0 : Int)) / x4_law_many))) (x5_law_digit))
def ok__law_take_2 (x3_law_box_here : (List Int)) (x4_law_many : Int) (x5_law_digit : Int) : Prop := ((IxOk (x3_law_box_here).length (0 : Int)) ∧ ((DivOk x4_law_many) ∧ ((IxOk (x3_law_box_here).length (0 : Int)) ∧ (ok__law_take_7 (((x3_law_box_here).set (ix (x3_law_box_here).length (0 : Int)) ((Dn.get (default : Int) x3_law_box_here (0 : Int)) / x4_law_many))) (x5_law_digit)))))
def m__law_take_22 (x23_law_box_here : (List Int)) (x24_law_many : Int) (x25_law_one : Int) : (Int × List Int) := (((((x25_law_one * (2147483647 : Int)) + (Dn.get (default : Int) x23_law_box_here (1 : Int))) / (8191 : Int)) % x24_law_many), x23_law_box_here)
def ok__law_take_22 (x23_law_box_here : (List Int)) (x24_law_many : Int) (x25_law_one : Int) : Prop := ((MulOk x25_law_one (2147483647 : Int)) ∧ ((IxOk (x23_law_box_here).length (1 : Int)) ∧ (((0:Int) < x24_law_many) ∧ True)))
def m__law_take_17 (x18_law_box_here : (List Int)) (x19_law_many : Int) (x20_law_one : Int) : (Int × List Int) := (m__law_take_22 (((x18_law_box_here).set (ix (x18_law_box_here).length (1 : Int)) ((((x20_law_one * (48271 : Int)) + (30103 : Int)) % (2147483629 : Int)) + (1 : Int)))) (x19_law_many) (x20_law_one))
def ok__law_take_17 (x18_law_box_here : (List Int)) (x19_law_many : Int) (x20_law_one : Int) : Prop := ((MulOk x20_law_one (48271 : Int)) ∧ ((IxOk (x18_law_box_here).length (1 : Int)) ∧ (ok__law_take_22 (((x18_law_box_here).set (ix (x18_law_box_here).length (1 : Int)) ((((x20_law_one * (48271 : Int)) + (30103 : Int)) % (2147483629 : Int)) + (1 : Int)))) (x19_law_many) (x20_law_one))))
def m__law_take (x_law_box_here : (List Int)) (x_law_many : Int) : (Int × List Int) := (bif (decide ((0 : Int) < (Dn.get (default : Int) x_law_box_here (0 : Int)))) then (m__law_take_2 (x_law_box_here) (x_law_many) (((Dn.get (default : Int) x_law_box_here (0 : Int)) % x_law_many))) else (m__law_take_17 (x_law_box_here) (x_law_many) ((((Dn.get (default : Int) x_law_box_here (1 : Int)) * (69623 : Int)) % (2147483647 : Int)))))
def ok__law_take (x_law_box_here : (List Int)) (x_law_many : Int) : Prop := ((IxOk (x_law_box_here).length (0 : Int)) ∧ (((decide ((0 : Int) < (Dn.get (default : Int) x_law_box_here (0 : Int)))) = true → ((IxOk (x_law_box_here).length (0 : Int)) ∧ (((0:Int) < x_law_many) ∧ (ok__law_take_2 (x_law_box_here) (x_law_many) (((Dn.get (default : Int) x_law_box_here (0 : Int)) % x_law_many)))))) ∧ (((decide ((0 : Int) < (Dn.get (default : Int) x_law_box_here (0 : Int)))) = false → ((IxOk (x_law_box_here).length (1 : Int)) ∧ ((MulOk (Dn.get (default : Int) x_law_box_here (1 : Int)) (69623 : Int)) ∧ (ok__law_take_17 (x_law_box_here) (x_law_many) ((((Dn.get (default : Int) x_law_box_here (1 : Int)) * (69623 : Int)) % (2147483647 : Int))))))) ∧ True)))
def m__law_colours_1 (x2_law_box_here : (List Int)) (x3_law_many : Int) (x4_law_left : (List (List Nat))) : ((List Nat) × List Int) := (let u11 := mapS (fun (s9 : ((List Int) × (List (List Nat)))) (y6 : Int) => (let t10 := (m__law_take s9.1 ((s9.2).length : Int)); ((Dn.get (default : (List Nat)) s9.2 t10.1), (t10.2, ((s9.2).eraseIdx (ix (s9.2).length t10.1)))))) (x2_law_box_here, x4_law_left) (rng 0 x3_law_many); ((joinS ([] : List Nat) (sortT .str u11.1)), u11.2.1))
def ok__law_colours_1 (x2_law_box_here : (List Int)) (x3_law_many : Int) (x4_law_left : (List (List Nat))) : Prop := ((RngOk x3_law_many) ∧ ((Sz ((rng 0 x3_law_many)).length) ∧ ((AllS (fun (s9 : ((List Int) × (List (List Nat)))) (y6 : Int) => ((ok__law_take s9.1 ((s9.2).length : Int)) ∧ (let t10 := (m__law_take s9.1 ((s9.2).length : Int)); ((IxOk (s9.2).length t10.1) ∧ ((Sz (s9.2).length) ∧ True))))) (fun (s9 : ((List Int) × (List (List Nat)))) (y6 : Int) => (let t10 := (m__law_take s9.1 ((s9.2).length : Int)); ((Dn.get (default : (List Nat)) s9.2 t10.1), (t10.2, ((s9.2).eraseIdx (ix (s9.2).length t10.1)))))) (x2_law_box_here, x4_law_left) (rng 0 x3_law_many)) ∧ (let u11 := mapS (fun (s9 : ((List Int) × (List (List Nat)))) (y6 : Int) => (let t10 := (m__law_take s9.1 ((s9.2).length : Int)); ((Dn.get (default : (List Nat)) s9.2 t10.1), (t10.2, ((s9.2).eraseIdx (ix (s9.2).length t10.1)))))) (x2_law_box_here, x4_law_left) (rng 0 x3_law_many); ((Sz (u11.1).length) ∧ ((SzJ ([] : List Nat) (sortT .str u11.1)) ∧ True))))))
def m__law_colours (x_law_box_here : (List Int)) (x_law_many : Int) : ((List Nat) × List Int) := (m__law_colours_1 (x_law_box_here) (x_law_many) ((chars ([97, 98, 99, 100, 101, 102, 103, 104, 105, 106, 107, 108, 109, 110, 111, 112, 113, 114, 115, 116, 117, 118, 119, 120, 121, 122] : List Nat))))
def ok__law_colours (x_law_box_here : (List Int)) (x_law_many : Int) : Prop := ((Sz (([97, 98, 99, 100, 101, 102, 103, 104, 105, 106, 107, 108, 109, 110, 111, 112, 113, 114, 115, 116, 117, 118, 119, 120, 121, 122] : List Nat)).length) ∧ (ok__law_colours_1 (x_law_box_here) (x_law_many) ((chars ([97, 98, 99, 100, 101, 102, 103, 104, 105, 106, 107, 108, 109, 110, 111, 112, 113, 114, 115, 116, 117, 118, 119, 120, 121, 122] : List Nat)))))
def m__law_reader_24 (x25_law_box_here : (List Int)) (x26_law_colours_here : (List Nat)) (x28_law_many : Int) (x29_law_found : (List (Bool × (List Int)))) (x31_law_mark : Bool) : ((List Int) × (List (Bool × (List Int)))) := (let u38 := mapS (fun (s36 : (List Int)) (y33 : (List Nat)) => (let t37 := (m__law_take s36 x28_law_many); (t37.1, t37.2))) x25_law_box_here (chars x26_law_colours_here); (u38.2, (x29_law_found ++ [(x31_law_mark, u38.1)])))
def ok__law_reader_24 (x25_law_box_here : (List Int)) (x26_law_colours_here : (List Nat)) (x28_law_many : Int) (x29_law_found : (List (Bool × (List Int)))) (x31_law_mark : Bool) : Prop := ((Sz ((chars x26_law_colours_here)).length) ∧ ((AllS (fun (s36 : (List Int)) (y33 : (List Nat)) => ((ok__law_take s36 x28_law_many) ∧ True)) (fun (s36 : (List Int)) (y33 : (List Nat)) => (let t37 := (m__law_take s36 x28_law_many); (t37.1, t37.2))) x25_law_box_here (chars x26_law_colours_here)) ∧ ((Sz (x29_law_found).length) ∧ True)))
def m__law_reader_L15 (x19_law_colours_here : (List Nat)) (x21_law_many : Int) (s16 : ((List Int) × (List (Bool × (List Int))))) (y17 : Int) : ((List Int) × (List (Bool × (List Int)))) := (let t22 := (m__law_take s16.1 (2 : Int)); (let t23 := (m__law_take t22.2 (Dn.get (default : Int) ([(2 : Int), (4 : Int)] : List Int) t22.1)); (m__law_reader_24 (t23.2) (x19_law_colours_here) (x21_law_many) (s16.2) ((decide (t23.1 = (0 : Int)))))))
def ok__law_reader_L15 (x19_law_colours_here : (List Nat)) (x21_law_many : Int) (s16 : ((List Int) × (List (Bool × (List Int))))) (y17 : Int) : Prop := ((ok__law_take s16.1 (2 : Int)) ∧ (let t22 := (m__law_take s16.1 (2 : Int)); ((IxOk (([(2 : Int), (4 : Int)] : List Int)).length t22.1) ∧ ((ok__law_take t22.2 (Dn.get (default : Int) ([(2 : Int), (4 : Int)] : List Int) t22.1)) ∧ (let t23 := (m__law_take t22.2 (Dn.get (default : Int) ([(2 : Int), (4 : Int)] : List Int) t22.1)); (ok__law_reader_24 (t23.2) (x19_law_colours_here) (x21_law_many) (s16.2) ((decide (t23.1 = (0 : Int))))))))))
def m__law_reader_45 (x46_law_box_here : (List Int)) (x50_law_found : (List (Bool × (List Int)))) : ((List (Bool × (List Int))) × List Int) := (x50_law_found, x46_law_box_here)
def ok__law_reader_45 (x46_law_box_here : (List Int)) (x50_law_found : (List (Bool × (List Int)))) : Prop := True
def m__law_reader_8 (x9_law_box_here : (List Int)) (x10_law_colours_here : (List Nat)) (x12_law_many : Int) (x13_law_found : (List (Bool × (List Int)))) : ((List (Bool × (List Int))) × List Int) := (let l44 := ((rng 0 x12_law_many)).foldl (m__law_reader_L15 (x10_law_colours_here) (x12_law_many)) (x9_law_box_here, x13_law_found); (m__law_reader_45 (l44.1) (l44.2)))
def ok__law_reader_8 (x9_law_box_here : (List Int)) (x10_law_colours_here : (List Nat)) (x12_law_many : Int) (x13_law_found : (List (Bool × (List Int)))) : Prop := ((RngOk x12_law_many) ∧ ((AllF (ok__law_reader_L15 (x10_law_colours_here) (x12_law_many)) (m__law_reader_L15 (x10_law_colours_here) (x12_law_many)) (x9_law_box_here, x13_law_found) (rng 0 x12_law_many)) ∧ (let l44 := ((rng 0 x12_law_many)).foldl (m__law_reader_L15 (x10_law_colours_here) (x12_law_many)) (x9_law_box_here, x13_law_found); (ok__law_reader_45 (l44.1) (l44.2)))))
def m__law_reader_2 (x3_law_box_here : (List Int)) (x4_law_colours_here : (List Nat)) (x6_law_many : Int) : ((List (Bool × (List Int))) × List Int) := (m__law_reader_8 (x3_law_box_here) (x4_law_colours_here) (x6_law_many) (([] : List (Bool × (List Int)))))
def ok__law_reader_2 (x3_law_box_here : (List Int)) (x4_law_colours_here : (List Nat)) (x6_law_many : Int) : Prop := (ok__law_reader_8 (x3_law_box_here) (x4_law_colours_here) (x6_law_many) (([] : List (Bool × (List Int)))))
def m__law_reader (x_law_box_here : (List Int)) (x_law_colours_here : (List Nat)) (x_law_most : Int) : ((List (Bool × (List Int))) × List Int) := (let t1 := (m__law_take x_law_box_here x_law_most); (m__law_reader_2 (t1.2) (x_law_colours_here) (((1 : Int) + t1.1))))
def ok__law_reader (x_law_box_here : (List Int)) (x_law_colours_here : (List Nat)) (x_law_most : Int) : Prop := ((ok__law_take x_law_box_here x_law_most) ∧ (let t1 := (m__law_take x_law_box_here x_law_most); (ok__law_reader_2 (t1.2) (x_law_colours_here) (((1 : Int) + t1.1)))))
def m_how_many_L30 (x39_many : Int) (s31 : (List (Int × Int))) (y32 : Int) : (List (Int × Int)) := (dput s31 y32 (((dget s31 y32).getD (0 : Int)) + x39_many))
def ok_how_many_L30 (x39_many : Int) (s31 : (List (Int × Int))) (y32 : Int) : Prop := (((s31).length < 100000) ∧ True)
def m_how_many_L22 (x27_reader : (List (Bool × (List Int)))) (s23 : (List (Int × Int))) (y24 : (Int × Int)) : (List (Int × Int)) := (let l41 := (((Dn.get (default : (Bool × (List Int))) x27_reader (y24.1)).2)).foldl (m_how_many_L30 ((y24.2))) s23; l41)
def ok_how_many_L22 (x27_reader : (List (Bool × (List Int)))) (s23 : (List (Int × Int))) (y24 : (Int × Int)) : Prop := ((IxOk (x27_reader).length (y24.1)) ∧ ((AllF (ok_how_many_L30 ((y24.2))) (m_how_many_L30 ((y24.2))) s23 ((Dn.get (default : (Bool × (List Int))) x27_reader (y24.1)).2)) ∧ True))
def m_how_many_44 (x49_behind : (List (Int × Int))) : (List (Int × Int)) := x49_behind
def ok_how_many_44 (x49_behind : (List (Int × Int))) : Prop := True
def m_how_many_14 (x16_reader : (List (Bool × (List Int)))) (x18_ways : (List (Int × Int))) (x20_behind : (List (Int × Int))) : (List (Int × Int)) := (let l43 := (x18_ways).foldl (m_how_many_L22 (x16_reader)) x20_behind; (m_how_many_44 (l43)))
def ok_how_many_14 (x16_reader : (List (Bool × (List Int)))) (x18_ways : (List (Int × Int))) (x20_behind : (List (Int × Int))) : Prop := ((AllF (ok_how_many_L22 (x16_reader)) (m_how_many_L22 (x16_reader)) x20_behind x18_ways) ∧ (let l43 := (x18_ways).foldl (m_how_many_L22 (x16_reader)) x20_behind; (ok_how_many_44 (l43))))
def m_how_many_L7 (x12_reader : (List (Bool × (List Int)))) (s8 : (List (Int × Int))) (y9 : Int) : (List (Int × Int)) := (m_how_many_14 (x12_reader) (s8) (([] : List (Int × Int))))
def ok_how_many_L7 (x12_reader : (List (Bool × (List Int)))) (s8 : (List (Int × Int))) (y9 : Int) : Prop := (ok_how_many_14 (x12_reader) (s8) (([] : List (Int × Int))))
def m_how_many_57 (x59_reader : (List (Bool × (List Int)))) (x61_ways : (List (Int × Int))) : Int := ((((List.filter (fun (y63 : (Int × Int)) => ((Dn.get (default : (Bool × (List Int))) x59_reader (y63.1)).1)) x61_ways).map (fun (y63 : (Int × Int)) => (y63.2)))).sum)
def ok_how_many_57 (x59_reader : (List (Bool × (List Int)))) (x61_ways : (List (Int × Int))) : Prop := ((Sz (x61_ways).length) ∧ ((∀ y63 ∈ x61_ways, ((IxOk (x59_reader).length (y63.1)) ∧ True)) ∧ True))
def m_how_many_1 (x3_reader : (List (Bool × (List Int)))) (x4_number : Int) (x5_ways : (List (Int × Int))) : Int := (let l56 := ((rng 0 x4_number)).foldl (m_how_many_L7 (x3_reader)) x5_ways; (m_how_many_57 (x3_reader) (l56)))
def ok_how_many_1 (x3_reader : (List (Bool × (List Int)))) (x4_number : Int) (x5_ways : (List (Int × Int))) : Prop := ((RngOk x4_number) ∧ ((AllF (ok_how_many_L7 (x3_reader)) (m_how_many_L7 (x3_reader)) x5_ways (rng 0 x4_number)) ∧ (let l56 := ((rng 0 x4_number)).foldl (m_how_many_L7 (x3_reader)) x5_ways; (ok_how_many_57 (x3_reader) (l56)))))
def m_how_many (x_colours : (List Nat)) (x_reader : (List (Bool × (List Int)))) (x_number : Int) : Int := (m_how_many_1 (x_reader) (x_number) (([((0 : Int), (1 : Int))] : List (Int × Int))))
def ok_how_many (x_colours : (List Nat)) (x_reader : (List (Bool × (List Int)))) (x_number : Int) : Prop := (ok_how_many_1 (x_reader) (x_number) (([((0 : Int), (1 : Int))] : List (Int × Int))))
def m__law_due_L8 (x12_law_rows : (List (Bool × (List Int)))) (s9 : (List Int)) (y10 : Int) : (List Int) := (List.map (fun (y14 : (Bool × (List Int))) => (((List.map (fun (y16 : Int) => (Dn.get (default : Int) s9 y16)) (y14.2))).sum)) x12_law_rows)
def ok__law_due_L8 (x12_law_rows : (List (Bool × (List Int)))) (s9 : (List Int)) (y10 : Int) : Prop := ((Sz (x12_law_rows).length) ∧ ((∀ y14 ∈ x12_law_rows, ((Sz ((y14.2)).length) ∧ ((∀ y16 ∈ (y14.2), ((IxOk (s9).length y16) ∧ True)) ∧ True))) ∧ True))
def m__law_due_20 (x23_law_ways : (List Int)) : Int := (Dn.get (default : Int) x23_law_ways (0 : Int))
def ok__law_due_20 (x23_law_ways : (List Int)) : Prop := ((IxOk (x23_law_ways).length (0 : Int)) ∧ True)
def m__law_due_3 (x4_law_rows : (List (Bool × (List Int)))) (x5_law_number : Int) (x6_law_ways : (List Int)) : Int := (let l19 := ((rng 0 x5_law_number)).foldl (m__law_due_L8 (x4_law_rows)) x6_law_ways; (m__law_due_20 (l19)))
def ok__law_due_3 (x4_law_rows : (List (Bool × (List Int)))) (x5_law_number : Int) (x6_law_ways : (List Int)) : Prop := ((RngOk x5_law_number) ∧ ((AllF (ok__law_due_L8 (x4_law_rows)) (m__law_due_L8 (x4_law_rows)) x6_law_ways (rng 0 x5_law_number)) ∧ (let l19 := ((rng 0 x5_law_number)).foldl (m__law_due_L8 (x4_law_rows)) x6_law_ways; (ok__law_due_20 (l19)))))
def m__law_due (x_law_rows : (List (Bool × (List Int)))) (x_law_number : Int) : Int := (m__law_due_3 (x_law_rows) (x_law_number) ((List.map (fun (y1 : (Bool × (List Int))) => (b2z (y1.1))) x_law_rows)))
def ok__law_due (x_law_rows : (List (Bool × (List Int)))) (x_law_number : Int) : Prop := ((Sz (x_law_rows).length) ∧ (ok__law_due_3 (x_law_rows) (x_law_number) ((List.map (fun (y1 : (Bool × (List Int))) => (b2z (y1.1))) x_law_rows))))
def m__law_words_L26 (x30_law_colours_here : (List Nat)) (s27 : (List (List Nat))) (y28 : (List Nat)) : (List (List Nat)) := (s27 ++ (List.map (fun (y35 : (List Nat)) => (y28 ++ y35)) (chars x30_law_colours_here)))
def ok__law_words_L26 (x30_law_colours_here : (List Nat)) (s27 : (List (List Nat))) (y28 : (List Nat)) : Prop := ((Sz ((chars x30_law_colours_here)).length) ∧ ((∀ y35 ∈ (chars x30_law_colours_here), ((Sz ((y28).length + (y35).length)) ∧ True)) ∧ ((Sz ((s27).length + ((List.map (fun (y35 : (List Nat)) => (y28 ++ y35)) (chars x30_law_colours_here))).length)) ∧ True)))
def m__law_words_39 (x42_law_found : (List (List Nat))) (x45_law_more : (List (List Nat))) : ((List (List Nat)) × (List (List Nat))) := ((x42_law_found ++ x45_law_more), x45_law_more)
def ok__law_words_39 (x42_law_found : (List (List Nat))) (x45_law_more : (List (List Nat))) : Prop := ((Sz ((x42_law_found).length + (x45_law_more).length)) ∧ True)
def m__law_words_18 (x19_law_colours_here : (List Nat)) (x21_law_found : (List (List Nat))) (x22_law_row : (List (List Nat))) (x24_law_more : (List (List Nat))) : ((List (List Nat)) × (List (List Nat))) := (let l38 := (x22_law_row).foldl (m__law_words_L26 (x19_law_colours_here)) x24_law_more; (m__law_words_39 (x21_law_found) (l38)))
def ok__law_words_18 (x19_law_colours_here : (List Nat)) (x21_law_found : (List (List Nat))) (x22_law_row : (List (List Nat))) (x24_law_more : (List (List Nat))) : Prop := ((AllF (ok__law_words_L26 (x19_law_colours_here)) (m__law_words_L26 (x19_law_colours_here)) x24_law_more x22_law_row) ∧ (let l38 := (x22_law_row).foldl (m__law_words_L26 (x19_law_colours_here)) x24_law_more; (ok__law_words_39 (x21_law_found) (l38))))
def m__law_words_L12 (x16_law_colours_here : (List Nat)) (s13 : ((List (List Nat)) × (List (List Nat)))) (y14 : Int) : ((List (List Nat)) × (List (List Nat))) := (m__law_words_18 (x16_law_colours_here) (s13.1) (s13.2) (([] : List (List Nat))))
def ok__law_words_L12 (x16_law_colours_here : (List Nat)) (s13 : ((List (List Nat)) × (List (List Nat)))) (y14 : Int) : Prop := (ok__law_words_18 (x16_law_colours_here) (s13.1) (s13.2) (([] : List (List Nat))))
def m__law_words_53 (x56_law_found : (List (List Nat))) : (List (List Nat)) := x56_law_found
def ok__law_words_53 (x56_law_found : (List (List Nat))) : Prop := True
def m__law_words_6 (x7_law_colours_here : (List Nat)) (x8_law_length : Int) (x9_law_found : (List (List Nat))) (x10_law_row : (List (List Nat))) : (List (List Nat)) := (let l52 := ((rng 0 x8_law_length)).foldl (m__law_words_L12 (x7_law_colours_here)) (x9_law_found, x10_law_row); (m__law_words_53 (l52.1)))
def ok__law_words_6 (x7_law_colours_here : (List Nat)) (x8_law_length : Int) (x9_law_found : (List (List Nat))) (x10_law_row : (List (List Nat))) : Prop := ((RngOk x8_law_length) ∧ ((AllF (ok__law_words_L12 (x7_law_colours_here)) (m__law_words_L12 (x7_law_colours_here)) (x9_law_found, x10_law_row) (rng 0 x8_law_length)) ∧ (let l52 := ((rng 0 x8_law_length)).foldl (m__law_words_L12 (x7_law_colours_here)) (x9_law_found, x10_law_row); (ok__law_words_53 (l52.1)))))
def m__law_words_1 (x2_law_colours_here : (List Nat)) (x3_law_length : Int) (x4_law_found : (List (List Nat))) : (List (List Nat)) := (m__law_words_6 (x2_law_colours_here) (x3_law_length) (x4_law_found) (([([] : List Nat)] : List (List Nat))))
def ok__law_words_1 (x2_law_colours_here : (List Nat)) (x3_law_length : Int) (x4_law_found : (List (List Nat))) : Prop := (ok__law_words_6 (x2_law_colours_here) (x3_law_length) (x4_law_found) (([([] : List Nat)] : List (List Nat))))
def m__law_words (x_law_colours_here : (List Nat)) (x_law_length : Int) : (List (List Nat)) := (m__law_words_1 (x_law_colours_here) (x_law_length) (([([] : List Nat)] : List (List Nat))))
def ok__law_words (x_law_colours_here : (List Nat)) (x_law_length : Int) : Prop := (ok__law_words_1 (x_law_colours_here) (x_law_length) (([([] : List Nat)] : List (List Nat))))
def m__law_takes_L1 (x5_law_colours_here : (List Nat)) (x6_law_rows : (List (Bool × (List Int)))) (s2 : Int) (y3 : (List Nat)) : Int := (Dn.get (default : Int) ((Dn.get (default : (Bool × (List Int))) x6_law_rows s2).2) (findZ x5_law_colours_here y3))
def ok__law_takes_L1 (x5_law_colours_here : (List Nat)) (x6_law_rows : (List (Bool × (List Int)))) (s2 : Int) (y3 : (List Nat)) : Prop := ((IxOk (x6_law_rows).length s2) ∧ ((IxOk (((Dn.get (default : (Bool × (List Int))) x6_law_rows s2).2)).length (findZ x5_law_colours_here y3)) ∧ True))
def m__law_takes_10 (x12_law_rows : (List (Bool × (List Int)))) (x14_law_row : Int) : Bool := ((Dn.get (default : (Bool × (List Int))) x12_law_rows x14_law_row).1)
def ok__law_takes_10 (x12_law_rows : (List (Bool × (List Int)))) (x14_law_row : Int) : Prop := ((IxOk (x12_law_rows).length x14_law_row) ∧ True)
def m__law_takes (x_law_colours_here : (List Nat)) (x_law_rows : (List (Bool × (List Int)))) (x_law_word : (List Nat)) : Bool := (let l9 := ((chars x_law_word)).foldl (m__law_takes_L1 (x_law_colours_here) (x_law_rows)) (0 : Int); (m__law_takes_10 (x_law_rows) (l9)))
def ok__law_takes (x_law_colours_here : (List Nat)) (x_law_rows : (List (Bool × (List Int)))) (x_law_word : (List Nat)) : Prop := ((AllF (ok__law_takes_L1 (x_law_colours_here) (x_law_rows)) (m__law_takes_L1 (x_law_colours_here) (x_law_rows)) (0 : Int) (chars x_law_word)) ∧ (let l9 := ((chars x_law_word)).foldl (m__law_takes_L1 (x_law_colours_here) (x_law_rows)) (0 : Int); (ok__law_takes_10 (x_law_rows) (l9))))
def m__law_right_16 (x17_law_colours_here : (List Nat)) (x18_law_rows : (List (Bool × (List Int)))) (x20_law_found : Int) (x21_law_some : (List (List Nat))) : Bool := (decide (x20_law_found = ((((List.filter (fun (y23 : (List Nat)) => (m__law_takes x17_law_colours_here x18_law_rows y23)) x21_law_some).map (fun (y23 : (List Nat)) => y23))).length : Int)))
def ok__law_right_16 (x17_law_colours_here : (List Nat)) (x18_law_rows : (List (Bool × (List Int)))) (x20_law_found : Int) (x21_law_some : (List (List Nat))) : Prop := ((Sz (x21_law_some).length) ∧ ((∀ y23 ∈ x21_law_some, ((ok__law_takes x17_law_colours_here x18_law_rows y23) ∧ True)) ∧ True))
def m__law_right_1 (x2_law_colours_here : (List Nat)) (x3_law_rows : (List (Bool × (List Int)))) (x4_law_number : Int) (x5_law_found : Int) : Bool := (bif ((!true) || (false || (!decide (x5_law_found = (m__law_due x3_law_rows x4_law_number))))) then false else (bif (decide ((5 : Int) < x4_law_number)) then true else (m__law_right_16 (x2_law_colours_here) (x3_law_rows) (x5_law_found) (((List.filter (fun (y13 : (List Nat)) => (decide (((y13).length : Int) = x4_law_number))) (m__law_words x2_law_colours_here x4_law_number)).map (fun (y13 : (List Nat)) => y13))))))
def ok__law_right_1 (x2_law_colours_here : (List Nat)) (x3_law_rows : (List (Bool × (List Int)))) (x4_law_number : Int) (x5_law_found : Int) : Prop := (((!true) = false → ((false = false → ((ok__law_due x3_law_rows x4_law_number) ∧ True)) ∧ True)) ∧ ((((!true) || (false || (!decide (x5_law_found = (m__law_due x3_law_rows x4_law_number))))) = false → (((decide ((5 : Int) < x4_law_number)) = false → ((ok__law_words x2_law_colours_here x4_law_number) ∧ ((Sz ((m__law_words x2_law_colours_here x4_law_number)).length) ∧ ((∀ y13 ∈ (m__law_words x2_law_colours_here x4_law_number), ((Sz (y13).length) ∧ True)) ∧ (ok__law_right_16 (x2_law_colours_here) (x3_law_rows) (x5_law_found) (((List.filter (fun (y13 : (List Nat)) => (decide (((y13).length : Int) = x4_law_number))) (m__law_words x2_law_colours_here x4_law_number)).map (fun (y13 : (List Nat)) => y13)))))))) ∧ True)) ∧ True))
def m__law_right (x_law_colours_here : (List Nat)) (x_law_rows : (List (Bool × (List Int)))) (x_law_number : Int) : Bool := (m__law_right_1 (x_law_colours_here) (x_law_rows) (x_law_number) ((m_how_many x_law_colours_here x_law_rows x_law_number)))
def ok__law_right (x_law_colours_here : (List Nat)) (x_law_rows : (List (Bool × (List Int)))) (x_law_number : Int) : Prop := ((ok_how_many x_law_colours_here x_law_rows x_law_number) ∧ (ok__law_right_1 (x_law_colours_here) (x_law_rows) (x_law_number) ((m_how_many x_law_colours_here x_law_rows x_law_number))))
def m_law_L29 (x35_law_colours_here : (List Nat)) (x37_law_number : Int) (s30 : Unit) (y31 : (List (Bool × (List Int)))) : (Lp Unit Bool) := (bif (!(m__law_right x35_law_colours_here y31 x37_law_number)) then (Lp.ret false) else (Lp.go ()))
def ok_law_L29 (x35_law_colours_here : (List Nat)) (x37_law_number : Int) (s30 : Unit) (y31 : (List (Bool × (List Int)))) : Prop := ((ok__law_right x35_law_colours_here y31 x37_law_number) ∧ True)
def m_law_L21 (x27_law_colours_here : (List Nat)) (x28_law_some : (List (List (Bool × (List Int))))) (s22 : Unit) (y23 : Int) : (Lp Unit Bool) := ((loopL (m_law_L29 (x27_law_colours_here) (y23)) () (x28_law_some ++ (cut x28_law_some none (some (1 : Int))))).then (fun (s41 : Unit) => (Lp.go ())))
def ok_law_L21 (x27_law_colours_here : (List Nat)) (x28_law_some : (List (List (Bool × (List Int))))) (s22 : Unit) (y23 : Int) : Prop := ((Sz ((x28_law_some).length + ((cut x28_law_some none (some (1 : Int)))).length)) ∧ ((AllL (ok_law_L29 (x27_law_colours_here) (y23)) (m_law_L29 (x27_law_colours_here) (y23)) () (x28_law_some ++ (cut x28_law_some none (some (1 : Int))))) ∧ True))
def m_law_44  : Bool := true
def ok_law_44  : Prop := True
def m_law_12 (x14_law_box_here : (List Int)) (x15_law_colours_here : (List Nat)) (x16_law_some : (List (List (Bool × (List Int))))) : Bool := (let t18 := (m__law_take x14_law_box_here (31 : Int)); (let t19 := (m__law_take t18.2 (6 : Int)); (let t20 := (m__law_take t19.2 (31 : Int)); ((loopL (m_law_L21 (x15_law_colours_here) (x16_law_some)) () [t18.1, t19.1, (0 : Int), t20.1]).fin (fun (s43 : Unit) => m_law_44)))))
def ok_law_12 (x14_law_box_here : (List Int)) (x15_law_colours_here : (List Nat)) (x16_law_some : (List (List (Bool × (List Int))))) : Prop := ((ok__law_take x14_law_box_here (31 : Int)) ∧ (let t18 := (m__law_take x14_law_box_here (31 : Int)); ((ok__law_take t18.2 (6 : Int)) ∧ (let t19 := (m__law_take t18.2 (6 : Int)); ((ok__law_take t19.2 (31 : Int)) ∧ (let t20 := (m__law_take t19.2 (31 : Int)); ((AllL (ok_law_L21 (x15_law_colours_here) (x16_law_some)) (m_law_L21 (x15_law_colours_here) (x16_law_some)) () [t18.1, t19.1, (0 : Int), t20.1]) ∧ ((loopL (m_law_L21 (x15_law_colours_here) (x16_law_some)) () [t18.1, t19.1, (0 : Int), t20.1]).done (fun (s43 : Unit) => ok_law_44)))))))))
def m_law_7 (x8_law_script : (List Int)) (x9_law_box_here : (List Int)) (x10_law_colours_here : (List Nat)) : Bool := (m_law_12 (x9_law_box_here) (x10_law_colours_here) (([(m__law_reader (m__law_box x8_law_script (1 : Int)) x10_law_colours_here (12 : Int)).1, (m__law_reader (m__law_box x8_law_script (2 : Int)) x10_law_colours_here (12 : Int)).1] : List (List (Bool × (List Int))))))
def ok_law_7 (x8_law_script : (List Int)) (x9_law_box_here : (List Int)) (x10_law_colours_here : (List Nat)) : Prop := ((ok__law_box x8_law_script (1 : Int)) ∧ ((ok__law_reader (m__law_box x8_law_script (1 : Int)) x10_law_colours_here (12 : Int)) ∧ ((ok__law_box x8_law_script (2 : Int)) ∧ ((ok__law_reader (m__law_box x8_law_script (2 : Int)) x10_law_colours_here (12 : Int)) ∧ (ok_law_12 (x9_law_box_here) (x10_law_colours_here) (([(m__law_reader (m__law_box x8_law_script (1 : Int)) x10_law_colours_here (12 : Int)).1, (m__law_reader (m__law_box x8_law_script (2 : Int)) x10_law_colours_here (12 : Int)).1] : List (List (Bool × (List Int))))))))))
def m_law_1 (x2_law_script : (List Int)) (x3_law_box_here : (List Int)) : Bool := (let t5 := (m__law_take x3_law_box_here (3 : Int)); (let t6 := (m__law_colours t5.2 ((1 : Int) + t5.1)); (m_law_7 (x2_law_script) (t6.2) (t6.1))))
def ok_law_1 (x2_law_script : (List Int)) (x3_law_box_here : (List Int)) : Prop := ((ok__law_take x3_law_box_here (3 : Int)) ∧ (let t5 := (m__law_take x3_law_box_here (3 : Int)); ((ok__law_colours t5.2 ((1 : Int) + t5.1)) ∧ (let t6 := (m__law_colours t5.2 ((1 : Int) + t5.1)); (ok_law_7 (x2_law_script) (t6.2) (t6.1))))))
def m_law (x_law_script : (List Int)) : Bool := (m_law_1 (x_law_script) ((m__law_box x_law_script (0 : Int))))
def ok_law (x_law_script : (List Int)) : Prop := ((ok__law_box x_law_script (0 : Int)) ∧ (ok_law_1 (x_law_script) ((m__law_box x_law_script (0 : Int)))))
end
end Wk

set_option Elab.async false
set_option linter.all false
set_option maxRecDepth 100000
set_option maxHeartbeats 20000000
namespace Wk
open PySem PySem.Spec PyProof.Rows L2 TL Dn Mt
noncomputable section
def r__law_box_19 (x22_law_cell : Int) (x23_law_seed : Int) : Rn (List Int) := (Rn.chk (IxOk (([(0 : Int), x22_law_cell] : List Int)).length (b2z (decide (((10 : Int) ^ Int.toNat (18 : Int)) ≤ x22_law_cell)))) (Rn.pure ([(Dn.get (default : Int) ([(0 : Int), x22_law_cell] : List Int) (b2z (decide (((10 : Int) ^ Int.toNat (18 : Int)) ≤ x22_law_cell)))), x23_law_seed] : List Int)))
theorem e__law_box_19 (x22_law_cell : Int) (x23_law_seed : Int) : r__law_box_19 x22_law_cell x23_law_seed = ⟨ok__law_box_19 x22_law_cell x23_law_seed, m__law_box_19 x22_law_cell x23_law_seed⟩ := by
  unfold r__law_box_19 ok__law_box_19 m__law_box_19
  simp only [Rn.chk, Rn.pure]
  all_goals with_unfolding_all rfl
def r__law_box_14 (x16_law_k : Int) (x17_law_cell : Int) : Rn (List Int) := (Rn.chk (MulOk (x17_law_cell % (2147483629 : Int)) (48271 : Int)) (Rn.chk (MulOk (40692 : Int) x16_law_k) (r__law_box_19 (x17_law_cell) ((((((x17_law_cell % (2147483629 : Int)) * (48271 : Int)) + ((40692 : Int) * x16_law_k)) % (2147483629 : Int)) + (1 : Int))))))
theorem e__law_box_14 (x16_law_k : Int) (x17_law_cell : Int) : r__law_box_14 x16_law_k x17_law_cell = ⟨ok__law_box_14 x16_law_k x17_law_cell, m__law_box_14 x16_law_k x17_law_cell⟩ := by
  unfold r__law_box_14 ok__law_box_14 m__law_box_14
  simp only [e__law_box_19, Rn.chk]
  all_goals with_unfolding_all rfl
def r__law_box_1 (x2_law_script : (List Int)) (x3_law_k : Int) (x4_law_cell : Int) : Rn (List Int) := (Rn.brTF (decide (x3_law_k < ((x2_law_script).length : Int))) (Rn.chk (IxOk (x2_law_script).length x3_law_k) (Rn.pure (Dn.get 0 x2_law_script x3_law_k))) (Rn.brT (decide ((0 : Int) < ((x2_law_script).length : Int))) (Rn.chk ((0:Int) < ((x2_law_script).length : Int)) (Rn.chk (IxOk (x2_law_script).length (x3_law_k % ((x2_law_script).length : Int))) (Rn.chk (MulOk ((Dn.get 0 x2_law_script (x3_law_k % ((x2_law_script).length : Int))) % (2147483629 : Int)) (69623 : Int)) (Rn.pure (x4_law_cell + (((Dn.get 0 x2_law_script (x3_law_k % ((x2_law_script).length : Int))) % (2147483629 : Int)) * (69623 : Int))))))) (Rn.pure x4_law_cell) (fun j10 => (Rn.pure j10))) (fun j12 => (r__law_box_14 (x3_law_k) (j12))))
theorem e__law_box_1 (x2_law_script : (List Int)) (x3_law_k : Int) (x4_law_cell : Int) : r__law_box_1 x2_law_script x3_law_k x4_law_cell = ⟨ok__law_box_1 x2_law_script x3_law_k x4_law_cell, m__law_box_1 x2_law_script x3_law_k x4_law_cell⟩ := by
  unfold r__law_box_1 ok__law_box_1 m__law_box_1
  simp only [e__law_box_14, Rn.brTF, Rn.chk, Rn.pure, Rn.brT]
  all_goals with_unfolding_all rfl
def r__law_box (x_law_script : (List Int)) (x_law_k : Int) : Rn (List Int) := (Rn.chk (MulOk (7919 : Int) x_law_k) (r__law_box_1 (x_law_script) (x_law_k) ((((7919 : Int) * x_law_k) + (11 : Int)))))
theorem e__law_box (x_law_script : (List Int)) (x_law_k : Int) : r__law_box x_law_script x_law_k = ⟨ok__law_box x_law_script x_law_k, m__law_box x_law_script x_law_k⟩ := by
  unfold r__law_box ok__law_box m__law_box
  simp only [e__law_box_1, Rn.chk]
  all_goals with_unfolding_all rfl
def r__law_take_7 (x8_law_box_here : (List Int)) (x10_law_digit : Int) : Rn (Int × List Int) := (Rn.pure (x10_law_digit, x8_law_box_here))
theorem e__law_take_7 (x8_law_box_here : (List Int)) (x10_law_digit : Int) : r__law_take_7 x8_law_box_here x10_law_digit = ⟨ok__law_take_7 x8_law_box_here x10_law_digit, m__law_take_7 x8_law_box_here x10_law_digit⟩ := by
  unfold r__law_take_7 ok__law_take_7 m__law_take_7
  simp only [Rn.pure]
  all_goals with_unfolding_all rfl
def r__law_take_2 (x3_law_box_here : (List Int)) (x4_law_many : Int) (x5_law_digit : Int) : Rn (Int × List Int) := (Rn.chk (IxOk (x3_law_box_here).length (0 : Int)) (Rn.chk (DivOk x4_law_many) (Rn.chk (IxOk (x3_law_box_here).length (0 : Int)) (r__law_take_7 (((x3_law_box_here).set (ix (x3_law_box_here).length (0 : Int)) ((Dn.get (default : Int) x3_law_box_here (0 : Int)) / x4_law_many))) (x5_law_digit)))))
theorem e__law_take_2 (x3_law_box_here : (List Int)) (x4_law_many : Int) (x5_law_digit : Int) : r__law_take_2 x3_law_box_here x4_law_many x5_law_digit = ⟨ok__law_take_2 x3_law_box_here x4_law_many x5_law_digit, m__law_take_2 x3_law_box_here x4_law_many x5_law_digit⟩ := by
  unfold r__law_take_2 ok__law_take_2 m__law_take_2
  simp only [e__law_take_7, Rn.chk]
  all_goals with_unfolding_all rfl
def r__law_take_22 (x23_law_box_here : (List Int)) (x24_law_many : Int) (x25_law_one : Int) : Rn (Int × List Int) := (Rn.chk (MulOk x25_law_one (2147483647 : Int)) (Rn.chk (IxOk (x23_law_box_here).length (1 : Int)) (Rn.chk ((0:Int) < x24_law_many) (Rn.pure (((((x25_law_one * (2147483647 : Int)) + (Dn.get (default : Int) x23_law_box_here (1 : Int))) / (8191 : Int)) % x24_law_many), x23_law_box_here)))))
theorem e__law_take_22 (x23_law_box_here : (List Int)) (x24_law_many : Int) (x25_law_one : Int) : r__law_take_22 x23_law_box_here x24_law_many x25_law_one = ⟨ok__law_take_22 x23_law_box_here x24_law_many x25_law_one, m__law_take_22 x23_law_box_here x24_law_many x25_law_one⟩ := by
  unfold r__law_take_22 ok__law_take_22 m__law_take_22
  simp only [Rn.chk, Rn.pure]
  all_goals with_unfolding_all rfl
def r__law_take_17 (x18_law_box_here : (List Int)) (x19_law_many : Int) (x20_law_one : Int) : Rn (Int × List Int) := (Rn.chk (MulOk x20_law_one (48271 : Int)) (Rn.chk (IxOk (x18_law_box_here).length (1 : Int)) (r__law_take_22 (((x18_law_box_here).set (ix (x18_law_box_here).length (1 : Int)) ((((x20_law_one * (48271 : Int)) + (30103 : Int)) % (2147483629 : Int)) + (1 : Int)))) (x19_law_many) (x20_law_one))))
theorem e__law_take_17 (x18_law_box_here : (List Int)) (x19_law_many : Int) (x20_law_one : Int) : r__law_take_17 x18_law_box_here x19_law_many x20_law_one = ⟨ok__law_take_17 x18_law_box_here x19_law_many x20_law_one, m__law_take_17 x18_law_box_here x19_law_many x20_law_one⟩ := by
  unfold r__law_take_17 ok__law_take_17 m__law_take_17
  simp only [e__law_take_22, Rn.chk]
  all_goals with_unfolding_all rfl
def r__law_take (x_law_box_here : (List Int)) (x_law_many : Int) : Rn (Int × List Int) := (Rn.chk (IxOk (x_law_box_here).length (0 : Int)) (Rn.ifTF (decide ((0 : Int) < (Dn.get (default : Int) x_law_box_here (0 : Int)))) (Rn.chk (IxOk (x_law_box_here).length (0 : Int)) (Rn.chk ((0:Int) < x_law_many) (r__law_take_2 (x_law_box_here) (x_law_many) (((Dn.get (default : Int) x_law_box_here (0 : Int)) % x_law_many))))) (Rn.chk (IxOk (x_law_box_here).length (1 : Int)) (Rn.chk (MulOk (Dn.get (default : Int) x_law_box_here (1 : Int)) (69623 : Int)) (r__law_take_17 (x_law_box_here) (x_law_many) ((((Dn.get (default : Int) x_law_box_here (1 : Int)) * (69623 : Int)) % (2147483647 : Int))))))))
theorem e__law_take (x_law_box_here : (List Int)) (x_law_many : Int) : r__law_take x_law_box_here x_law_many = ⟨ok__law_take x_law_box_here x_law_many, m__law_take x_law_box_here x_law_many⟩ := by
  unfold r__law_take ok__law_take m__law_take
  simp only [e__law_take_2, e__law_take_17, Rn.chk, Rn.ifTF]
  all_goals with_unfolding_all rfl
def r__law_colours_1 (x2_law_box_here : (List Int)) (x3_law_many : Int) (x4_law_left : (List (List Nat))) : Rn ((List Nat) × List Int) := (Rn.chk (RngOk x3_law_many) (Rn.chk (Sz ((rng 0 x3_law_many)).length) (Rn.maps (fun (s9 : ((List Int) × (List (List Nat)))) (y6 : Int) => (Rn.bind (r__law_take s9.1 ((s9.2).length : Int)) (fun t10 => (Rn.chk (IxOk (s9.2).length t10.1) (Rn.chk (Sz (s9.2).length) (Rn.pure ((Dn.get (default : (List Nat)) s9.2 t10.1), (t10.2, ((s9.2).eraseIdx (ix (s9.2).length t10.1)))))))))) (x2_law_box_here, x4_law_left) (rng 0 x3_law_many) (fun u11 => (Rn.chk (Sz (u11.1).length) (Rn.chk (SzJ ([] : List Nat) (sortT .str u11.1)) (Rn.pure ((joinS ([] : List Nat) (sortT .str u11.1)), u11.2.1))))))))
theorem e__law_colours_1 (x2_law_box_here : (List Int)) (x3_law_many : Int) (x4_law_left : (List (List Nat))) : r__law_colours_1 x2_law_box_here x3_law_many x4_law_left = ⟨ok__law_colours_1 x2_law_box_here x3_law_many x4_law_left, m__law_colours_1 x2_law_box_here x3_law_many x4_law_left⟩ := by
  unfold r__law_colours_1 ok__law_colours_1 m__law_colours_1
  simp only [e__law_take, Rn.chk, Rn.maps, Rn.bind, Rn.pure]
  all_goals with_unfolding_all rfl
def r__law_colours (x_law_box_here : (List Int)) (x_law_many : Int) : Rn ((List Nat) × List Int) := (Rn.chk (Sz (([97, 98, 99, 100, 101, 102, 103, 104, 105, 106, 107, 108, 109, 110, 111, 112, 113, 114, 115, 116, 117, 118, 119, 120, 121, 122] : List Nat)).length) (r__law_colours_1 (x_law_box_here) (x_law_many) ((chars ([97, 98, 99, 100, 101, 102, 103, 104, 105, 106, 107, 108, 109, 110, 111, 112, 113, 114, 115, 116, 117, 118, 119, 120, 121, 122] : List Nat)))))
theorem e__law_colours (x_law_box_here : (List Int)) (x_law_many : Int) : r__law_colours x_law_box_here x_law_many = ⟨ok__law_colours x_law_box_here x_law_many, m__law_colours x_law_box_here x_law_many⟩ := by
  unfold r__law_colours ok__law_colours m__law_colours
  simp only [e__law_colours_1, Rn.chk]
  all_goals with_unfolding_all rfl
def r__law_reader_24 (x25_law_box_here : (List Int)) (x26_law_colours_here : (List Nat)) (x28_law_many : Int) (x29_law_found : (List (Bool × (List Int)))) (x31_law_mark : Bool) : Rn ((List Int) × (List (Bool × (List Int)))) := (Rn.chk (Sz ((chars x26_law_colours_here)).length) (Rn.maps (fun (s36 : (List Int)) (y33 : (List Nat)) => (Rn.bind (r__law_take s36 x28_law_many) (fun t37 => (Rn.pure (t37.1, t37.2))))) x25_law_box_here (chars x26_law_colours_here) (fun u38 => (Rn.chk (Sz (x29_law_found).length) (Rn.pure (u38.2, (x29_law_found ++ [(x31_law_mark, u38.1)])))))))
theorem e__law_reader_24 (x25_law_box_here : (List Int)) (x26_law_colours_here : (List Nat)) (x28_law_many : Int) (x29_law_found : (List (Bool × (List Int)))) (x31_law_mark : Bool) : r__law_reader_24 x25_law_box_here x26_law_colours_here x28_law_many x29_law_found x31_law_mark = ⟨ok__law_reader_24 x25_law_box_here x26_law_colours_here x28_law_many x29_law_found x31_law_mark, m__law_reader_24 x25_law_box_here x26_law_colours_here x28_law_many x29_law_found x31_law_mark⟩ := by
  unfold r__law_reader_24 ok__law_reader_24 m__law_reader_24
  simp only [e__law_take, Rn.chk, Rn.maps, Rn.bind, Rn.pure]
  all_goals with_unfolding_all rfl
def r__law_reader_L15 (x19_law_colours_here : (List Nat)) (x21_law_many : Int) (s16 : ((List Int) × (List (Bool × (List Int))))) (y17 : Int) : Rn ((List Int) × (List (Bool × (List Int)))) := (Rn.bind (r__law_take s16.1 (2 : Int)) (fun t22 => (Rn.chk (IxOk (([(2 : Int), (4 : Int)] : List Int)).length t22.1) (Rn.bind (r__law_take t22.2 (Dn.get (default : Int) ([(2 : Int), (4 : Int)] : List Int) t22.1)) (fun t23 => (r__law_reader_24 (t23.2) (x19_law_colours_here) (x21_law_many) (s16.2) ((decide (t23.1 = (0 : Int))))))))))
theorem e__law_reader_L15 (x19_law_colours_here : (List Nat)) (x21_law_many : Int) (s16 : ((List Int) × (List (Bool × (List Int))))) (y17 : Int) : r__law_reader_L15 x19_law_colours_here x21_law_many s16 y17 = ⟨ok__law_reader_L15 x19_law_colours_here x21_law_many s16 y17, m__law_reader_L15 x19_law_colours_here x21_law_many s16 y17⟩ := by
  unfold r__law_reader_L15 ok__law_reader_L15 m__law_reader_L15
  simp only [e__law_take, e__law_reader_24, Rn.bind, Rn.chk]
  all_goals with_unfolding_all rfl
def r__law_reader_45 (x46_law_box_here : (List Int)) (x50_law_found : (List (Bool × (List Int)))) : Rn ((List (Bool × (List Int))) × List Int) := (Rn.pure (x50_law_found, x46_law_box_here))
theorem e__law_reader_45 (x46_law_box_here : (List Int)) (x50_law_found : (List (Bool × (List Int)))) : r__law_reader_45 x46_law_box_here x50_law_found = ⟨ok__law_reader_45 x46_law_box_here x50_law_found, m__law_reader_45 x46_law_box_here x50_law_found⟩ := by
  unfold r__law_reader_45 ok__law_reader_45 m__law_reader_45
  simp only [Rn.pure]
  all_goals with_unfolding_all rfl
def r__law_reader_8 (x9_law_box_here : (List Int)) (x10_law_colours_here : (List Nat)) (x12_law_many : Int) (x13_law_found : (List (Bool × (List Int)))) : Rn ((List (Bool × (List Int))) × List Int) := (Rn.chk (RngOk x12_law_many) (Rn.fold (fun (s16 : ((List Int) × (List (Bool × (List Int))))) (y17 : Int) => (r__law_reader_L15 (x10_law_colours_here) (x12_law_many) s16 y17)) (x9_law_box_here, x13_law_found) (rng 0 x12_law_many) (fun l44 => (r__law_reader_45 (l44.1) (l44.2)))))
theorem e__law_reader_8 (x9_law_box_here : (List Int)) (x10_law_colours_here : (List Nat)) (x12_law_many : Int) (x13_law_found : (List (Bool × (List Int)))) : r__law_reader_8 x9_law_box_here x10_law_colours_here x12_law_many x13_law_found = ⟨ok__law_reader_8 x9_law_box_here x10_law_colours_here x12_law_many x13_law_found, m__law_reader_8 x9_law_box_here x10_law_colours_here x12_law_many x13_law_found⟩ := by
  unfold r__law_reader_8 ok__law_reader_8 m__law_reader_8
  simp only [e__law_reader_L15, e__law_reader_45, Rn.chk, Rn.fold]
  all_goals with_unfolding_all rfl
def r__law_reader_2 (x3_law_box_here : (List Int)) (x4_law_colours_here : (List Nat)) (x6_law_many : Int) : Rn ((List (Bool × (List Int))) × List Int) := (r__law_reader_8 (x3_law_box_here) (x4_law_colours_here) (x6_law_many) (([] : List (Bool × (List Int)))))
theorem e__law_reader_2 (x3_law_box_here : (List Int)) (x4_law_colours_here : (List Nat)) (x6_law_many : Int) : r__law_reader_2 x3_law_box_here x4_law_colours_here x6_law_many = ⟨ok__law_reader_2 x3_law_box_here x4_law_colours_here x6_law_many, m__law_reader_2 x3_law_box_here x4_law_colours_here x6_law_many⟩ := by
  unfold r__law_reader_2 ok__law_reader_2 m__law_reader_2
  simp only [e__law_reader_8]
  all_goals with_unfolding_all rfl
def r__law_reader (x_law_box_here : (List Int)) (x_law_colours_here : (List Nat)) (x_law_most : Int) : Rn ((List (Bool × (List Int))) × List Int) := (Rn.bind (r__law_take x_law_box_here x_law_most) (fun t1 => (r__law_reader_2 (t1.2) (x_law_colours_here) (((1 : Int) + t1.1)))))
theorem e__law_reader (x_law_box_here : (List Int)) (x_law_colours_here : (List Nat)) (x_law_most : Int) : r__law_reader x_law_box_here x_law_colours_here x_law_most = ⟨ok__law_reader x_law_box_here x_law_colours_here x_law_most, m__law_reader x_law_box_here x_law_colours_here x_law_most⟩ := by
  unfold r__law_reader ok__law_reader m__law_reader
  simp only [e__law_take, e__law_reader_2, Rn.bind]
  all_goals with_unfolding_all rfl
def r_how_many_L30 (x39_many : Int) (s31 : (List (Int × Int))) (y32 : Int) : Rn (List (Int × Int)) := (Rn.chk ((s31).length < 100000) (Rn.pure (dput s31 y32 (((dget s31 y32).getD (0 : Int)) + x39_many))))
theorem e_how_many_L30 (x39_many : Int) (s31 : (List (Int × Int))) (y32 : Int) : r_how_many_L30 x39_many s31 y32 = ⟨ok_how_many_L30 x39_many s31 y32, m_how_many_L30 x39_many s31 y32⟩ := by
  unfold r_how_many_L30 ok_how_many_L30 m_how_many_L30
  simp only [Rn.chk, Rn.pure]
  all_goals with_unfolding_all rfl
def r_how_many_L22 (x27_reader : (List (Bool × (List Int)))) (s23 : (List (Int × Int))) (y24 : (Int × Int)) : Rn (List (Int × Int)) := (Rn.chk (IxOk (x27_reader).length (y24.1)) (Rn.fold (fun (s31 : (List (Int × Int))) (y32 : Int) => (r_how_many_L30 ((y24.2)) s31 y32)) s23 ((Dn.get (default : (Bool × (List Int))) x27_reader (y24.1)).2) (fun l41 => (Rn.pure l41))))
theorem e_how_many_L22 (x27_reader : (List (Bool × (List Int)))) (s23 : (List (Int × Int))) (y24 : (Int × Int)) : r_how_many_L22 x27_reader s23 y24 = ⟨ok_how_many_L22 x27_reader s23 y24, m_how_many_L22 x27_reader s23 y24⟩ := by
  unfold r_how_many_L22 ok_how_many_L22 m_how_many_L22
  simp only [e_how_many_L30, Rn.chk, Rn.fold, Rn.pure]
  all_goals with_unfolding_all rfl
def r_how_many_44 (x49_behind : (List (Int × Int))) : Rn (List (Int × Int)) := (Rn.pure x49_behind)
theorem e_how_many_44 (x49_behind : (List (Int × Int))) : r_how_many_44 x49_behind = ⟨ok_how_many_44 x49_behind, m_how_many_44 x49_behind⟩ := by
  unfold r_how_many_44 ok_how_many_44 m_how_many_44
  simp only [Rn.pure]
  all_goals with_unfolding_all rfl
def r_how_many_14 (x16_reader : (List (Bool × (List Int)))) (x18_ways : (List (Int × Int))) (x20_behind : (List (Int × Int))) : Rn (List (Int × Int)) := (Rn.fold (fun (s23 : (List (Int × Int))) (y24 : (Int × Int)) => (r_how_many_L22 (x16_reader) s23 y24)) x20_behind x18_ways (fun l43 => (r_how_many_44 (l43))))
theorem e_how_many_14 (x16_reader : (List (Bool × (List Int)))) (x18_ways : (List (Int × Int))) (x20_behind : (List (Int × Int))) : r_how_many_14 x16_reader x18_ways x20_behind = ⟨ok_how_many_14 x16_reader x18_ways x20_behind, m_how_many_14 x16_reader x18_ways x20_behind⟩ := by
  unfold r_how_many_14 ok_how_many_14 m_how_many_14
  simp only [e_how_many_L22, e_how_many_44, Rn.fold]
  all_goals with_unfolding_all rfl
def r_how_many_L7 (x12_reader : (List (Bool × (List Int)))) (s8 : (List (Int × Int))) (y9 : Int) : Rn (List (Int × Int)) := (r_how_many_14 (x12_reader) (s8) (([] : List (Int × Int))))
theorem e_how_many_L7 (x12_reader : (List (Bool × (List Int)))) (s8 : (List (Int × Int))) (y9 : Int) : r_how_many_L7 x12_reader s8 y9 = ⟨ok_how_many_L7 x12_reader s8 y9, m_how_many_L7 x12_reader s8 y9⟩ := by
  unfold r_how_many_L7 ok_how_many_L7 m_how_many_L7
  simp only [e_how_many_14]
  all_goals with_unfolding_all rfl
def r_how_many_57 (x59_reader : (List (Bool × (List Int)))) (x61_ways : (List (Int × Int))) : Rn Int := (Rn.chk (Sz (x61_ways).length) (Rn.chk (∀ y63 ∈ x61_ways, ((IxOk (x59_reader).length (y63.1)) ∧ True)) (Rn.pure ((((List.filter (fun (y63 : (Int × Int)) => ((Dn.get (default : (Bool × (List Int))) x59_reader (y63.1)).1)) x61_ways).map (fun (y63 : (Int × Int)) => (y63.2)))).sum))))
theorem e_how_many_57 (x59_reader : (List (Bool × (List Int)))) (x61_ways : (List (Int × Int))) : r_how_many_57 x59_reader x61_ways = ⟨ok_how_many_57 x59_reader x61_ways, m_how_many_57 x59_reader x61_ways⟩ := by
  unfold r_how_many_57 ok_how_many_57 m_how_many_57
  simp only [Rn.chk, Rn.pure]
  all_goals with_unfolding_all rfl
def r_how_many_1 (x3_reader : (List (Bool × (List Int)))) (x4_number : Int) (x5_ways : (List (Int × Int))) : Rn Int := (Rn.chk (RngOk x4_number) (Rn.fold (fun (s8 : (List (Int × Int))) (y9 : Int) => (r_how_many_L7 (x3_reader) s8 y9)) x5_ways (rng 0 x4_number) (fun l56 => (r_how_many_57 (x3_reader) (l56)))))
theorem e_how_many_1 (x3_reader : (List (Bool × (List Int)))) (x4_number : Int) (x5_ways : (List (Int × Int))) : r_how_many_1 x3_reader x4_number x5_ways = ⟨ok_how_many_1 x3_reader x4_number x5_ways, m_how_many_1 x3_reader x4_number x5_ways⟩ := by
  unfold r_how_many_1 ok_how_many_1 m_how_many_1
  simp only [e_how_many_L7, e_how_many_57, Rn.chk, Rn.fold]
  all_goals with_unfolding_all rfl
def r_how_many (x_colours : (List Nat)) (x_reader : (List (Bool × (List Int)))) (x_number : Int) : Rn Int := (r_how_many_1 (x_reader) (x_number) (([((0 : Int), (1 : Int))] : List (Int × Int))))
theorem e_how_many (x_colours : (List Nat)) (x_reader : (List (Bool × (List Int)))) (x_number : Int) : r_how_many x_colours x_reader x_number = ⟨ok_how_many x_colours x_reader x_number, m_how_many x_colours x_reader x_number⟩ := by
  unfold r_how_many ok_how_many m_how_many
  simp only [e_how_many_1]
  all_goals with_unfolding_all rfl
def r__law_due_L8 (x12_law_rows : (List (Bool × (List Int)))) (s9 : (List Int)) (y10 : Int) : Rn (List Int) := (Rn.chk (Sz (x12_law_rows).length) (Rn.chk (∀ y14 ∈ x12_law_rows, ((Sz ((y14.2)).length) ∧ ((∀ y16 ∈ (y14.2), ((IxOk (s9).length y16) ∧ True)) ∧ True))) (Rn.pure (List.map (fun (y14 : (Bool × (List Int))) => (((List.map (fun (y16 : Int) => (Dn.get (default : Int) s9 y16)) (y14.2))).sum)) x12_law_rows))))
theorem e__law_due_L8 (x12_law_rows : (List (Bool × (List Int)))) (s9 : (List Int)) (y10 : Int) : r__law_due_L8 x12_law_rows s9 y10 = ⟨ok__law_due_L8 x12_law_rows s9 y10, m__law_due_L8 x12_law_rows s9 y10⟩ := by
  unfold r__law_due_L8 ok__law_due_L8 m__law_due_L8
  simp only [Rn.chk, Rn.pure]
  all_goals with_unfolding_all rfl
def r__law_due_20 (x23_law_ways : (List Int)) : Rn Int := (Rn.chk (IxOk (x23_law_ways).length (0 : Int)) (Rn.pure (Dn.get (default : Int) x23_law_ways (0 : Int))))
theorem e__law_due_20 (x23_law_ways : (List Int)) : r__law_due_20 x23_law_ways = ⟨ok__law_due_20 x23_law_ways, m__law_due_20 x23_law_ways⟩ := by
  unfold r__law_due_20 ok__law_due_20 m__law_due_20
  simp only [Rn.chk, Rn.pure]
  all_goals with_unfolding_all rfl
def r__law_due_3 (x4_law_rows : (List (Bool × (List Int)))) (x5_law_number : Int) (x6_law_ways : (List Int)) : Rn Int := (Rn.chk (RngOk x5_law_number) (Rn.fold (fun (s9 : (List Int)) (y10 : Int) => (r__law_due_L8 (x4_law_rows) s9 y10)) x6_law_ways (rng 0 x5_law_number) (fun l19 => (r__law_due_20 (l19)))))
theorem e__law_due_3 (x4_law_rows : (List (Bool × (List Int)))) (x5_law_number : Int) (x6_law_ways : (List Int)) : r__law_due_3 x4_law_rows x5_law_number x6_law_ways = ⟨ok__law_due_3 x4_law_rows x5_law_number x6_law_ways, m__law_due_3 x4_law_rows x5_law_number x6_law_ways⟩ := by
  unfold r__law_due_3 ok__law_due_3 m__law_due_3
  simp only [e__law_due_L8, e__law_due_20, Rn.chk, Rn.fold]
  all_goals with_unfolding_all rfl
def r__law_due (x_law_rows : (List (Bool × (List Int)))) (x_law_number : Int) : Rn Int := (Rn.chk (Sz (x_law_rows).length) (r__law_due_3 (x_law_rows) (x_law_number) ((List.map (fun (y1 : (Bool × (List Int))) => (b2z (y1.1))) x_law_rows))))
theorem e__law_due (x_law_rows : (List (Bool × (List Int)))) (x_law_number : Int) : r__law_due x_law_rows x_law_number = ⟨ok__law_due x_law_rows x_law_number, m__law_due x_law_rows x_law_number⟩ := by
  unfold r__law_due ok__law_due m__law_due
  simp only [e__law_due_3, Rn.chk]
  all_goals with_unfolding_all rfl
def r__law_words_L26 (x30_law_colours_here : (List Nat)) (s27 : (List (List Nat))) (y28 : (List Nat)) : Rn (List (List Nat)) := (Rn.chk (Sz ((chars x30_law_colours_here)).length) (Rn.chk (∀ y35 ∈ (chars x30_law_colours_here), ((Sz ((y28).length + (y35).length)) ∧ True)) (Rn.chk (Sz ((s27).length + ((List.map (fun (y35 : (List Nat)) => (y28 ++ y35)) (chars x30_law_colours_here))).length)) (Rn.pure (s27 ++ (List.map (fun (y35 : (List Nat)) => (y28 ++ y35)) (chars x30_law_colours_here)))))))
theorem e__law_words_L26 (x30_law_colours_here : (List Nat)) (s27 : (List (List Nat))) (y28 : (List Nat)) : r__law_words_L26 x30_law_colours_here s27 y28 = ⟨ok__law_words_L26 x30_law_colours_here s27 y28, m__law_words_L26 x30_law_colours_here s27 y28⟩ := by
  unfold r__law_words_L26 ok__law_words_L26 m__law_words_L26
  simp only [Rn.chk, Rn.pure]
  all_goals with_unfolding_all rfl
def r__law_words_39 (x42_law_found : (List (List Nat))) (x45_law_more : (List (List Nat))) : Rn ((List (List Nat)) × (List (List Nat))) := (Rn.chk (Sz ((x42_law_found).length + (x45_law_more).length)) (Rn.pure ((x42_law_found ++ x45_law_more), x45_law_more)))
theorem e__law_words_39 (x42_law_found : (List (List Nat))) (x45_law_more : (List (List Nat))) : r__law_words_39 x42_law_found x45_law_more = ⟨ok__law_words_39 x42_law_found x45_law_more, m__law_words_39 x42_law_found x45_law_more⟩ := by
  unfold r__law_words_39 ok__law_words_39 m__law_words_39
  simp only [Rn.chk, Rn.pure]
  all_goals with_unfolding_all rfl
def r__law_words_18 (x19_law_colours_here : (List Nat)) (x21_law_found : (List (List Nat))) (x22_law_row : (List (List Nat))) (x24_law_more : (List (List Nat))) : Rn ((List (List Nat)) × (List (List Nat))) := (Rn.fold (fun (s27 : (List (List Nat))) (y28 : (List Nat)) => (r__law_words_L26 (x19_law_colours_here) s27 y28)) x24_law_more x22_law_row (fun l38 => (r__law_words_39 (x21_law_found) (l38))))
theorem e__law_words_18 (x19_law_colours_here : (List Nat)) (x21_law_found : (List (List Nat))) (x22_law_row : (List (List Nat))) (x24_law_more : (List (List Nat))) : r__law_words_18 x19_law_colours_here x21_law_found x22_law_row x24_law_more = ⟨ok__law_words_18 x19_law_colours_here x21_law_found x22_law_row x24_law_more, m__law_words_18 x19_law_colours_here x21_law_found x22_law_row x24_law_more⟩ := by
  unfold r__law_words_18 ok__law_words_18 m__law_words_18
  simp only [e__law_words_L26, e__law_words_39, Rn.fold]
  all_goals with_unfolding_all rfl
def r__law_words_L12 (x16_law_colours_here : (List Nat)) (s13 : ((List (List Nat)) × (List (List Nat)))) (y14 : Int) : Rn ((List (List Nat)) × (List (List Nat))) := (r__law_words_18 (x16_law_colours_here) (s13.1) (s13.2) (([] : List (List Nat))))
theorem e__law_words_L12 (x16_law_colours_here : (List Nat)) (s13 : ((List (List Nat)) × (List (List Nat)))) (y14 : Int) : r__law_words_L12 x16_law_colours_here s13 y14 = ⟨ok__law_words_L12 x16_law_colours_here s13 y14, m__law_words_L12 x16_law_colours_here s13 y14⟩ := by
  unfold r__law_words_L12 ok__law_words_L12 m__law_words_L12
  simp only [e__law_words_18]
  all_goals with_unfolding_all rfl
def r__law_words_53 (x56_law_found : (List (List Nat))) : Rn (List (List Nat)) := (Rn.pure x56_law_found)
theorem e__law_words_53 (x56_law_found : (List (List Nat))) : r__law_words_53 x56_law_found = ⟨ok__law_words_53 x56_law_found, m__law_words_53 x56_law_found⟩ := by
  unfold r__law_words_53 ok__law_words_53 m__law_words_53
  simp only [Rn.pure]
  all_goals with_unfolding_all rfl
def r__law_words_6 (x7_law_colours_here : (List Nat)) (x8_law_length : Int) (x9_law_found : (List (List Nat))) (x10_law_row : (List (List Nat))) : Rn (List (List Nat)) := (Rn.chk (RngOk x8_law_length) (Rn.fold (fun (s13 : ((List (List Nat)) × (List (List Nat)))) (y14 : Int) => (r__law_words_L12 (x7_law_colours_here) s13 y14)) (x9_law_found, x10_law_row) (rng 0 x8_law_length) (fun l52 => (r__law_words_53 (l52.1)))))
theorem e__law_words_6 (x7_law_colours_here : (List Nat)) (x8_law_length : Int) (x9_law_found : (List (List Nat))) (x10_law_row : (List (List Nat))) : r__law_words_6 x7_law_colours_here x8_law_length x9_law_found x10_law_row = ⟨ok__law_words_6 x7_law_colours_here x8_law_length x9_law_found x10_law_row, m__law_words_6 x7_law_colours_here x8_law_length x9_law_found x10_law_row⟩ := by
  unfold r__law_words_6 ok__law_words_6 m__law_words_6
  simp only [e__law_words_L12, e__law_words_53, Rn.chk, Rn.fold]
  all_goals with_unfolding_all rfl
def r__law_words_1 (x2_law_colours_here : (List Nat)) (x3_law_length : Int) (x4_law_found : (List (List Nat))) : Rn (List (List Nat)) := (r__law_words_6 (x2_law_colours_here) (x3_law_length) (x4_law_found) (([([] : List Nat)] : List (List Nat))))
theorem e__law_words_1 (x2_law_colours_here : (List Nat)) (x3_law_length : Int) (x4_law_found : (List (List Nat))) : r__law_words_1 x2_law_colours_here x3_law_length x4_law_found = ⟨ok__law_words_1 x2_law_colours_here x3_law_length x4_law_found, m__law_words_1 x2_law_colours_here x3_law_length x4_law_found⟩ := by
  unfold r__law_words_1 ok__law_words_1 m__law_words_1
  simp only [e__law_words_6]
  all_goals with_unfolding_all rfl
def r__law_words (x_law_colours_here : (List Nat)) (x_law_length : Int) : Rn (List (List Nat)) := (r__law_words_1 (x_law_colours_here) (x_law_length) (([([] : List Nat)] : List (List Nat))))
theorem e__law_words (x_law_colours_here : (List Nat)) (x_law_length : Int) : r__law_words x_law_colours_here x_law_length = ⟨ok__law_words x_law_colours_here x_law_length, m__law_words x_law_colours_here x_law_length⟩ := by
  unfold r__law_words ok__law_words m__law_words
  simp only [e__law_words_1]
  all_goals with_unfolding_all rfl
def r__law_takes_L1 (x5_law_colours_here : (List Nat)) (x6_law_rows : (List (Bool × (List Int)))) (s2 : Int) (y3 : (List Nat)) : Rn Int := (Rn.chk (IxOk (x6_law_rows).length s2) (Rn.chk (IxOk (((Dn.get (default : (Bool × (List Int))) x6_law_rows s2).2)).length (findZ x5_law_colours_here y3)) (Rn.pure (Dn.get (default : Int) ((Dn.get (default : (Bool × (List Int))) x6_law_rows s2).2) (findZ x5_law_colours_here y3)))))
theorem e__law_takes_L1 (x5_law_colours_here : (List Nat)) (x6_law_rows : (List (Bool × (List Int)))) (s2 : Int) (y3 : (List Nat)) : r__law_takes_L1 x5_law_colours_here x6_law_rows s2 y3 = ⟨ok__law_takes_L1 x5_law_colours_here x6_law_rows s2 y3, m__law_takes_L1 x5_law_colours_here x6_law_rows s2 y3⟩ := by
  unfold r__law_takes_L1 ok__law_takes_L1 m__law_takes_L1
  simp only [Rn.chk, Rn.pure]
  all_goals with_unfolding_all rfl
def r__law_takes_10 (x12_law_rows : (List (Bool × (List Int)))) (x14_law_row : Int) : Rn Bool := (Rn.chk (IxOk (x12_law_rows).length x14_law_row) (Rn.pure ((Dn.get (default : (Bool × (List Int))) x12_law_rows x14_law_row).1)))
theorem e__law_takes_10 (x12_law_rows : (List (Bool × (List Int)))) (x14_law_row : Int) : r__law_takes_10 x12_law_rows x14_law_row = ⟨ok__law_takes_10 x12_law_rows x14_law_row, m__law_takes_10 x12_law_rows x14_law_row⟩ := by
  unfold r__law_takes_10 ok__law_takes_10 m__law_takes_10
  simp only [Rn.chk, Rn.pure]
  all_goals with_unfolding_all rfl
def r__law_takes (x_law_colours_here : (List Nat)) (x_law_rows : (List (Bool × (List Int)))) (x_law_word : (List Nat)) : Rn Bool := (Rn.fold (fun (s2 : Int) (y3 : (List Nat)) => (r__law_takes_L1 (x_law_colours_here) (x_law_rows) s2 y3)) (0 : Int) (chars x_law_word) (fun l9 => (r__law_takes_10 (x_law_rows) (l9))))
theorem e__law_takes (x_law_colours_here : (List Nat)) (x_law_rows : (List (Bool × (List Int)))) (x_law_word : (List Nat)) : r__law_takes x_law_colours_here x_law_rows x_law_word = ⟨ok__law_takes x_law_colours_here x_law_rows x_law_word, m__law_takes x_law_colours_here x_law_rows x_law_word⟩ := by
  unfold r__law_takes ok__law_takes m__law_takes
  simp only [e__law_takes_L1, e__law_takes_10, Rn.fold]
  all_goals with_unfolding_all rfl
def r__law_right_16 (x17_law_colours_here : (List Nat)) (x18_law_rows : (List (Bool × (List Int)))) (x20_law_found : Int) (x21_law_some : (List (List Nat))) : Rn Bool := (Rn.chk (Sz (x21_law_some).length) (Rn.chk (∀ y23 ∈ x21_law_some, ((ok__law_takes x17_law_colours_here x18_law_rows y23) ∧ True)) (Rn.pure (decide (x20_law_found = ((((List.filter (fun (y23 : (List Nat)) => (m__law_takes x17_law_colours_here x18_law_rows y23)) x21_law_some).map (fun (y23 : (List Nat)) => y23))).length : Int))))))
theorem e__law_right_16 (x17_law_colours_here : (List Nat)) (x18_law_rows : (List (Bool × (List Int)))) (x20_law_found : Int) (x21_law_some : (List (List Nat))) : r__law_right_16 x17_law_colours_here x18_law_rows x20_law_found x21_law_some = ⟨ok__law_right_16 x17_law_colours_here x18_law_rows x20_law_found x21_law_some, m__law_right_16 x17_law_colours_here x18_law_rows x20_law_found x21_law_some⟩ := by
  unfold r__law_right_16 ok__law_right_16 m__law_right_16
  simp only [Rn.chk, Rn.pure]
  all_goals with_unfolding_all rfl
def r__law_right_1 (x2_law_colours_here : (List Nat)) (x3_law_rows : (List (Bool × (List Int)))) (x4_law_number : Int) (x5_law_found : Int) : Rn Bool := (Rn.chk ((!true) = false → ((false = false → ((ok__law_due x3_law_rows x4_law_number) ∧ True)) ∧ True)) (Rn.ifF ((!true) || (false || (!decide (x5_law_found = (m__law_due x3_law_rows x4_law_number))))) (Rn.pure false) (Rn.ifF (decide ((5 : Int) < x4_law_number)) (Rn.pure true) (Rn.bind (r__law_words x2_law_colours_here x4_law_number) (fun w1 => (Rn.chk (Sz (w1).length) (Rn.chk (∀ y13 ∈ w1, ((Sz (y13).length) ∧ True)) (r__law_right_16 (x2_law_colours_here) (x3_law_rows) (x5_law_found) (((List.filter (fun (y13 : (List Nat)) => (decide (((y13).length : Int) = x4_law_number))) w1).map (fun (y13 : (List Nat)) => y13)))))))))))
theorem e__law_right_1 (x2_law_colours_here : (List Nat)) (x3_law_rows : (List (Bool × (List Int)))) (x4_law_number : Int) (x5_law_found : Int) : r__law_right_1 x2_law_colours_here x3_law_rows x4_law_number x5_law_found = ⟨ok__law_right_1 x2_law_colours_here x3_law_rows x4_law_number x5_law_found, m__law_right_1 x2_law_colours_here x3_law_rows x4_law_number x5_law_found⟩ := by
  unfold r__law_right_1 ok__law_right_1 m__law_right_1
  simp only [e__law_words, e__law_right_16, Rn.chk, Rn.ifF, Rn.pure, Rn.bind]
  all_goals with_unfolding_all rfl
def r__law_right (x_law_colours_here : (List Nat)) (x_law_rows : (List (Bool × (List Int)))) (x_law_number : Int) : Rn Bool := (Rn.bind (r_how_many x_law_colours_here x_law_rows x_law_number) (fun w2 => (r__law_right_1 (x_law_colours_here) (x_law_rows) (x_law_number) (w2))))
theorem e__law_right (x_law_colours_here : (List Nat)) (x_law_rows : (List (Bool × (List Int)))) (x_law_number : Int) : r__law_right x_law_colours_here x_law_rows x_law_number = ⟨ok__law_right x_law_colours_here x_law_rows x_law_number, m__law_right x_law_colours_here x_law_rows x_law_number⟩ := by
  unfold r__law_right ok__law_right m__law_right
  simp only [e_how_many, e__law_right_1, Rn.bind]
  all_goals with_unfolding_all rfl
def r_law_L29 (x35_law_colours_here : (List Nat)) (x37_law_number : Int) (s30 : Unit) (y31 : (List (Bool × (List Int)))) : Rn (Lp Unit Bool) := (Rn.bind (r__law_right x35_law_colours_here y31 x37_law_number) (fun w3 => (Rn.if (!w3) (Rn.pure (Lp.ret false)) (Rn.pure (Lp.go ())))))
theorem e_law_L29 (x35_law_colours_here : (List Nat)) (x37_law_number : Int) (s30 : Unit) (y31 : (List (Bool × (List Int)))) : r_law_L29 x35_law_colours_here x37_law_number s30 y31 = ⟨ok_law_L29 x35_law_colours_here x37_law_number s30 y31, m_law_L29 x35_law_colours_here x37_law_number s30 y31⟩ := by
  unfold r_law_L29 ok_law_L29 m_law_L29
  simp only [e__law_right, Rn.bind, Rn.if, Rn.pure]
  all_goals with_unfolding_all rfl
def r_law_L21 (x27_law_colours_here : (List Nat)) (x28_law_some : (List (List (Bool × (List Int))))) (s22 : Unit) (y23 : Int) : Rn (Lp Unit Bool) := (Rn.chk (Sz ((x28_law_some).length + ((cut x28_law_some none (some (1 : Int)))).length)) (Rn.lpTE (fun (s30 : Unit) (y31 : (List (Bool × (List Int)))) => (r_law_L29 (x27_law_colours_here) (y23) s30 y31)) () (x28_law_some ++ (cut x28_law_some none (some (1 : Int)))) (fun (s41 : Unit) => (Rn.pure (Lp.go ())))))
theorem e_law_L21 (x27_law_colours_here : (List Nat)) (x28_law_some : (List (List (Bool × (List Int))))) (s22 : Unit) (y23 : Int) : r_law_L21 x27_law_colours_here x28_law_some s22 y23 = ⟨ok_law_L21 x27_law_colours_here x28_law_some s22 y23, m_law_L21 x27_law_colours_here x28_law_some s22 y23⟩ := by
  unfold r_law_L21 ok_law_L21 m_law_L21
  simp only [e_law_L29, Rn.chk, Rn.lpTE, Rn.pure]
  all_goals with_unfolding_all rfl
def r_law_44  : Rn Bool := (Rn.pure true)
theorem e_law_44  : r_law_44  = ⟨ok_law_44 , m_law_44 ⟩ := by
  unfold r_law_44 ok_law_44 m_law_44
  simp only [Rn.pure]
  all_goals with_unfolding_all rfl
def r_law_12 (x14_law_box_here : (List Int)) (x15_law_colours_here : (List Nat)) (x16_law_some : (List (List (Bool × (List Int))))) : Rn Bool := (Rn.bind (r__law_take x14_law_box_here (31 : Int)) (fun t18 => (Rn.bind (r__law_take t18.2 (6 : Int)) (fun t19 => (Rn.bind (r__law_take t19.2 (31 : Int)) (fun t20 => (Rn.lpF (fun (s22 : Unit) (y23 : Int) => (r_law_L21 (x15_law_colours_here) (x16_law_some) s22 y23)) () [t18.1, t19.1, (0 : Int), t20.1] (fun (s43 : Unit) => r_law_44))))))))
theorem e_law_12 (x14_law_box_here : (List Int)) (x15_law_colours_here : (List Nat)) (x16_law_some : (List (List (Bool × (List Int))))) : r_law_12 x14_law_box_here x15_law_colours_here x16_law_some = ⟨ok_law_12 x14_law_box_here x15_law_colours_here x16_law_some, m_law_12 x14_law_box_here x15_law_colours_here x16_law_some⟩ := by
  unfold r_law_12 ok_law_12 m_law_12
  simp only [e__law_take, e_law_L21, e_law_44, Rn.bind, Rn.lpF]
  all_goals with_unfolding_all rfl
def r_law_7 (x8_law_script : (List Int)) (x9_law_box_here : (List Int)) (x10_law_colours_here : (List Nat)) : Rn Bool := (Rn.bind (r__law_box x8_law_script (1 : Int)) (fun w7 => (Rn.bind (r__law_reader w7 x10_law_colours_here (12 : Int)) (fun w6 => (Rn.bind (r__law_box x8_law_script (2 : Int)) (fun w5 => (Rn.bind (r__law_reader w5 x10_law_colours_here (12 : Int)) (fun w4 => (r_law_12 (x9_law_box_here) (x10_law_colours_here) (([w6.1, w4.1] : List (List (Bool × (List Int))))))))))))))
theorem e_law_7 (x8_law_script : (List Int)) (x9_law_box_here : (List Int)) (x10_law_colours_here : (List Nat)) : r_law_7 x8_law_script x9_law_box_here x10_law_colours_here = ⟨ok_law_7 x8_law_script x9_law_box_here x10_law_colours_here, m_law_7 x8_law_script x9_law_box_here x10_law_colours_here⟩ := by
  unfold r_law_7 ok_law_7 m_law_7
  simp only [e__law_box, e__law_reader, e_law_12, Rn.bind]
  all_goals with_unfolding_all rfl
def r_law_1 (x2_law_script : (List Int)) (x3_law_box_here : (List Int)) : Rn Bool := (Rn.bind (r__law_take x3_law_box_here (3 : Int)) (fun t5 => (Rn.bind (r__law_colours t5.2 ((1 : Int) + t5.1)) (fun t6 => (r_law_7 (x2_law_script) (t6.2) (t6.1))))))
theorem e_law_1 (x2_law_script : (List Int)) (x3_law_box_here : (List Int)) : r_law_1 x2_law_script x3_law_box_here = ⟨ok_law_1 x2_law_script x3_law_box_here, m_law_1 x2_law_script x3_law_box_here⟩ := by
  unfold r_law_1 ok_law_1 m_law_1
  simp only [e__law_take, e__law_colours, e_law_7, Rn.bind]
  all_goals with_unfolding_all rfl
def r_law (x_law_script : (List Int)) : Rn Bool := (Rn.bind (r__law_box x_law_script (0 : Int)) (fun w8 => (r_law_1 (x_law_script) (w8))))
theorem e_law (x_law_script : (List Int)) : r_law x_law_script = ⟨ok_law x_law_script, m_law x_law_script⟩ := by
  unfold r_law ok_law m_law
  simp only [e__law_box, e_law_1, Rn.bind]
  all_goals with_unfolding_all rfl
end
end Wk

set_option Elab.async false
set_option linter.all false
set_option maxRecDepth 100000
set_option maxHeartbeats 20000000
namespace Wk
open PySem PySem.Spec PyProof.Rows L2 TL Dn
def top (i : Nat) : Stmt := PySem.Challenge.pw_walktold_k65_how_many.main.body.getD i (.Pass ⟨0, 0, 0, 0⟩)
structure Bt (mg : Str → Option Value) : Prop where
  z_bool : mg "bool" = none
  z_int : mg "int" = none
  z_isinstance : mg "isinstance" = none
  z_len : mg "len" = none
  z_list : mg "list" = none
  z_range : mg "range" = none
  z_sorted : mg "sorted" = none
  z_sum : mg "sum" = none
  z_tuple : mg "tuple" = none
abbrev st__law_box : Stmt := top 3
def pr__law_box (K : PySem.W.Frag) : Sp := fun vs H Q E => ∃ (x_law_script : (List Int)) (x_law_k : Int), ok__law_box x_law_script x_law_k ∧ Pm0 K [.fr .scr x_law_script, .fr .int x_law_k] (.ow (.lst .int (m__law_box x_law_script x_law_k))) vs H Q E
theorem sc__law_box : FnScope ["_law_script", "_law_k", "_law_cell", "_law_seed"] ["_law_script", "_law_k"] (defScope st__law_box) := ⟨rfl, rfl, rfl, by decide +kernel, rfl, by decide +kernel, by decide +kernel⟩
abbrev st__law_take : Stmt := top 4
def pr__law_take (K : PySem.W.Frag) : Sp := fun vs H Q E => ∃ (x_law_box_here : (List Int)) (x_law_many : Int), ok__law_take x_law_box_here x_law_many ∧ Pm1 K (.lst .int x_law_box_here) (.lst .int (m__law_take x_law_box_here x_law_many).2) [.fr .int x_law_many] (.fr .int (m__law_take x_law_box_here x_law_many).1) vs H Q E
theorem sc__law_take : FnScope ["_law_box_here", "_law_many", "_law_digit", "_law_one"] ["_law_box_here", "_law_many"] (defScope st__law_take) := ⟨rfl, rfl, rfl, by decide +kernel, rfl, by decide +kernel, by decide +kernel⟩
abbrev st__law_colours : Stmt := top 5
def pr__law_colours (K : PySem.W.Frag) : Sp := fun vs H Q E => ∃ (x_law_box_here : (List Int)) (x_law_many : Int), ok__law_colours x_law_box_here x_law_many ∧ Pm1 K (.lst .int x_law_box_here) (.lst .int (m__law_colours x_law_box_here x_law_many).2) [.fr .int x_law_many] (.fr .str (m__law_colours x_law_box_here x_law_many).1) vs H Q E
theorem sc__law_colours : FnScope ["_law_box_here", "_law_many", "_law_left", "_law_k"] ["_law_box_here", "_law_many"] (defScope st__law_colours) := ⟨rfl, rfl, rfl, by decide +kernel, rfl, by decide +kernel, by decide +kernel⟩
abbrev st__law_reader : Stmt := top 6
def pr__law_reader (K : PySem.W.Frag) : Sp := fun vs H Q E => ∃ (x_law_box_here : (List Int)) (x_law_colours_here : (List Nat)) (x_law_most : Int), ok__law_reader x_law_box_here x_law_colours_here x_law_most ∧ Pm1 K (.lst .int x_law_box_here) (.lst .int (m__law_reader x_law_box_here x_law_colours_here x_law_most).2) [.fr .str x_law_colours_here, .fr .int x_law_most] (.fr (.tup (.p2 .bool (.tup .int))) (m__law_reader x_law_box_here x_law_colours_here x_law_most).1) vs H Q E
theorem sc__law_reader : FnScope ["_law_box_here", "_law_colours_here", "_law_most", "_law_many", "_law_found", "_law_row", "_law_mark", "_law_colour"] ["_law_box_here", "_law_colours_here", "_law_most"] (defScope st__law_reader) := ⟨rfl, rfl, rfl, by decide +kernel, rfl, by decide +kernel, by decide +kernel⟩
abbrev st_how_many : Stmt := top 1
def pr_how_many (K : PySem.W.Frag) : Sp := fun vs H Q E => ∃ (x_colours : (List Nat)) (x_reader : (List (Bool × (List Int)))) (x_number : Int), ok_how_many x_colours x_reader x_number ∧ Pm0 K [.fr .str x_colours, .fr (.tup (.p2 .bool (.tup .int))) x_reader, .fr .int x_number] (.fr .int (m_how_many x_colours x_reader x_number)) vs H Q E
theorem sc_how_many : FnScope ["colours", "reader", "number", "ways", "turn", "behind", "row", "many", "goal"] ["colours", "reader", "number"] (defScope st_how_many) := ⟨rfl, rfl, rfl, by decide +kernel, rfl, by decide +kernel, by decide +kernel⟩
abbrev st__law_due : Stmt := top 9
def pr__law_due (K : PySem.W.Frag) : Sp := fun vs H Q E => ∃ (x_law_rows : (List (Bool × (List Int)))) (x_law_number : Int), ok__law_due x_law_rows x_law_number ∧ Pm0 K [.fr (.tup (.p2 .bool (.tup .int))) x_law_rows, .fr .int x_law_number] (.fr .int (m__law_due x_law_rows x_law_number)) vs H Q E
theorem sc__law_due : FnScope ["_law_rows", "_law_number", "_law_ways", "_law_turn", "_law_mark", "_law_goes", "_law_goal"] ["_law_rows", "_law_number"] (defScope st__law_due) := ⟨rfl, rfl, rfl, by decide +kernel, rfl, by decide +kernel, by decide +kernel⟩
abbrev st__law_words : Stmt := top 8
def pr__law_words (K : PySem.W.Frag) : Sp := fun vs H Q E => ∃ (x_law_colours_here : (List Nat)) (x_law_length : Int), ok__law_words x_law_colours_here x_law_length ∧ Pm0 K [.fr .str x_law_colours_here, .fr .int x_law_length] (.fr (.lst .str) (m__law_words x_law_colours_here x_law_length)) vs H Q E
theorem sc__law_words : FnScope ["_law_colours_here", "_law_length", "_law_found", "_law_row", "_law_turn", "_law_more", "_law_word", "_law_colour"] ["_law_colours_here", "_law_length"] (defScope st__law_words) := ⟨rfl, rfl, rfl, by decide +kernel, rfl, by decide +kernel, by decide +kernel⟩
abbrev st__law_takes : Stmt := top 7
def pr__law_takes (K : PySem.W.Frag) : Sp := fun vs H Q E => ∃ (x_law_colours_here : (List Nat)) (x_law_rows : (List (Bool × (List Int)))) (x_law_word : (List Nat)), ok__law_takes x_law_colours_here x_law_rows x_law_word ∧ Pm0 K [.fr .str x_law_colours_here, .fr (.tup (.p2 .bool (.tup .int))) x_law_rows, .fr .str x_law_word] (.fr .bool (m__law_takes x_law_colours_here x_law_rows x_law_word)) vs H Q E
theorem sc__law_takes : FnScope ["_law_colours_here", "_law_rows", "_law_word", "_law_row", "_law_colour"] ["_law_colours_here", "_law_rows", "_law_word"] (defScope st__law_takes) := ⟨rfl, rfl, rfl, by decide +kernel, rfl, by decide +kernel, by decide +kernel⟩
abbrev st__law_right : Stmt := top 10
def pr__law_right (K : PySem.W.Frag) : Sp := fun vs H Q E => ∃ (x_law_colours_here : (List Nat)) (x_law_rows : (List (Bool × (List Int)))) (x_law_number : Int), ok__law_right x_law_colours_here x_law_rows x_law_number ∧ Pm0 K [.fr .str x_law_colours_here, .fr (.tup (.p2 .bool (.tup .int))) x_law_rows, .fr .int x_law_number] (.fr .bool (m__law_right x_law_colours_here x_law_rows x_law_number)) vs H Q E
theorem sc__law_right : FnScope ["_law_colours_here", "_law_rows", "_law_number", "_law_found", "_law_some", "_law_word"] ["_law_colours_here", "_law_rows", "_law_number"] (defScope st__law_right) := ⟨rfl, rfl, rfl, by decide +kernel, rfl, by decide +kernel, by decide +kernel⟩
abbrev st_law : Stmt := top 11
def pr_law (K : PySem.W.Frag) : Sp := fun vs H Q E => ∃ (x_law_script : (List Int)), ok_law x_law_script ∧ Pm0 K [.fr .scr x_law_script] (.fr .bool (m_law x_law_script)) vs H Q E
theorem sc_law : FnScope ["_law_script", "_law_box_here", "_law_colours_here", "_law_some", "_law_number", "_law_rows"] ["_law_script"] (defScope st_law) := ⟨rfl, rfl, rfl, by decide +kernel, rfl, by decide +kernel, by decide +kernel⟩
end Wk

set_option Elab.async false
set_option linter.all false
set_option maxRecDepth 100000
set_option maxHeartbeats 20000000
namespace Wk
open PySem PySem.Spec PyProof.Rows L2 TL Dn
theorem w_law {P : Program} {w : World} {K : PySem.W.Frag} {mg : Str → Option Value} {base : Heap} (B : Bt mg) (C__law_box : Cl P w K mg base 1 "_law_box" ["_law_script", "_law_k"] (pr__law_box K)) (C__law_colours : Cl P w K mg base 2 "_law_colours" ["_law_box_here", "_law_many"] (pr__law_colours K)) (C__law_reader : Cl P w K mg base 2 "_law_reader" ["_law_box_here", "_law_colours_here", "_law_most"] (pr__law_reader K)) (C__law_take : Cl P w K mg base 1 "_law_take" ["_law_box_here", "_law_many"] (pr__law_take K)) (C__law_right : Cl P w K mg base 2 "_law_right" ["_law_colours_here", "_law_rows", "_law_number"] (pr__law_right K)) {f : Addr} {fd : FuncData} (F : Fun K "law" "law" st_law f fd) : FnG P w K mg base 3 f fd ["_law_script"] (pr_law K) :=
  fun_okG F sc_law (fun vs H Q E h => by obtain ⟨x_law_script, _, h⟩ := h; exact pm0_len h) (fun cdv A outer s H vs Q E hr h => by
    obtain ⟨x_law_script, hk, h⟩ := h
    refine ⟨_, pss_wp, ?_⟩
    refine body_F (t := .bool) (Γ0 := [.fr .scr x_law_script, .un, .un, .un, .un, .un]) (d := default) (dss_cons (ds_setO 1 (clo_call C__law_box (hr.mono (by decide)) (fun _ _ _ h => ⟨_, _, hk.1, h⟩) (da_cons (de_var 0 rfl) (da_cons de_int da_nil (hs := by rfl)) (hs := by rfl)) (hf := by rfl) (hg := by rfl) (hdb := by decide) (he := by rfl) (hpl := by rfl)) sc_law.nd) (cont_let1 (ρ := Bool) (fun (v57 : (List Int)) => [.fr .scr x_law_script, .ow false (.lst .int v57), .un, .un, .un, .un]) ((m__law_box x_law_script (0 : Int))) (fun (v57 : (List Int)) => (ok_law_1 (x_law_script) (v57))) hk.2 rfl (fun v57 hs56 => (dss_cons (ds_set 2 (cl_callB 1 C__law_colours (hr.mono (by decide)) (fun _ _ _ h => ⟨_, _, hs56.2.1, h⟩) (da_box 1 (da_cons (de_add de_int (cl_callB 1 C__law_take (hr.mono (by decide)) (fun _ _ _ h => ⟨_, _, hs56.1, h⟩) (da_box 1 (da_cons de_int da_nil (hs := by rfl))) (hi := rfl) (hf := by rfl) (hg := by rfl) (hdb := by decide) (he := by rfl) (hpl := by rfl))) da_nil (hs := by rfl))) (hi := rfl) (hf := by rfl) (hg := by rfl) (hdb := by decide) (he := by rfl) (hpl := by rfl)) sc_law.nd) (cont_let2 (ρ := Bool) (fun (v54 : (List Int)) (v55 : (List Nat)) => [.fr .scr (x_law_script), .ow false (.lst .int v54), .fr .str v55, .un, .un, .un]) (((m__law_colours ((m__law_take (v57) (3 : Int))).2 ((1 : Int) + ((m__law_take (v57) (3 : Int))).1))).2) (((m__law_colours ((m__law_take (v57) (3 : Int))).2 ((1 : Int) + ((m__law_take (v57) (3 : Int))).1))).1) (fun (v54 : (List Int)) (v55 : (List Nat)) => (ok_law_7 ((x_law_script)) (v54) (v55))) hs56.2.2 rfl (fun v54 v55 hs53 => (dss_cons (ds_set 3 (de_frz (do_lst (t := (.tup (.p2 .bool (.tup .int)))) (dls_cons (cl_callT C__law_reader (hr.mono (by decide)) (fun _ _ _ h => ⟨_, _, _, hs53.2.1, h⟩) (da_tmp (clo_call C__law_box (hr.mono (by decide)) (fun _ _ _ h => ⟨_, _, hs53.1, h⟩) (da_cons (de_var 0 rfl) (da_cons de_int da_nil (hs := by rfl)) (hs := by rfl)) (hf := by rfl) (hg := by rfl) (hdb := by decide) (he := by rfl) (hpl := by rfl)) (da_cons (de_var 2 rfl) (da_cons de_int da_nil (hs := by rfl)) (hs := by rfl)) (hf := by rfl) (hs := by rfl)) (hf := by rfl) (hg := by rfl) (hdb := by decide) (he := by rfl) (hpl := by rfl)) (dls_cons (cl_callT C__law_reader (hr.mono (by decide)) (fun _ _ _ h => ⟨_, _, _, hs53.2.2.2.1, h⟩) (da_tmp (clo_call C__law_box (hr.mono (by decide)) (fun _ _ _ h => ⟨_, _, hs53.2.2.1, h⟩) (da_cons (de_var 0 rfl) (da_cons de_int da_nil (hs := by rfl)) (hs := by rfl)) (hf := by rfl) (hg := by rfl) (hdb := by decide) (he := by rfl) (hpl := by rfl)) (da_cons (de_var 2 rfl) (da_cons de_int da_nil (hs := by rfl)) (hs := by rfl)) (hf := by rfl) (hs := by rfl)) (hf := by rfl) (hg := by rfl) (hdb := by decide) (he := by rfl) (hpl := by rfl)) dls_nil (hs := by rfl)) (hs := by rfl)) (hz := by exact sz_of rfl))) sc_law.nd) (cont_let1 (ρ := Bool) (fun (v52 : (List (List (Bool × (List Int))))) => [.fr .scr ((x_law_script)), .ow false (.lst .int (v54)), .fr .str (v55), .fr (.lst (.tup (.p2 .bool (.tup .int)))) v52, .un, .un]) (([(m__law_reader (m__law_box ((x_law_script)) (1 : Int)) (v55) (12 : Int)).1, (m__law_reader (m__law_box ((x_law_script)) (2 : Int)) (v55) (12 : Int)).1] : List (List (Bool × (List Int))))) (fun (v52 : (List (List (Bool × (List Int))))) => (ok_law_12 ((v54)) ((v55)) (v52))) hs53.2.2.2.2 rfl (fun v52 hs51 => (dss_cons (ds_forL (fun (s42 : Unit) => [.fr .scr (((x_law_script))), .ow false (.lst .int ((m__law_take ((m__law_take ((m__law_take ((v54)) (31 : Int))).2 (6 : Int))).2 (31 : Int))).2), .fr .str ((v55)), .fr (.lst (.tup (.p2 .bool (.tup .int)))) (v52), .un, .un]) (s0 := ()) (f := (m_law_L21 (((v55))) ((v52)))) (P := (ok_law_L21 (((v55))) ((v52)))) (di_tup (t := .int) (de_tupH (dls_cons (cl_callB 1 C__law_take (hr.mono (by decide)) (fun _ _ _ h => ⟨_, _, hs51.1, h⟩) (da_box 1 (da_cons de_int da_nil (hs := by rfl))) (hi := rfl) (hf := by rfl) (hg := by rfl) (hdb := by decide) (he := by rfl) (hpl := by rfl)) (dls_cons (cl_callB 1 C__law_take (hr.mono (by decide)) (fun _ _ _ h => ⟨_, _, hs51.2.1, h⟩) (da_box 1 (da_cons de_int da_nil (hs := by rfl))) (hi := rfl) (hf := by rfl) (hg := by rfl) (hdb := by decide) (he := by rfl) (hpl := by rfl)) (dls_cons de_int (dls_cons (cl_callB 1 C__law_take (hr.mono (by decide)) (fun _ _ _ h => ⟨_, _, hs51.2.2.1, h⟩) (da_box 1 (da_cons de_int da_nil (hs := by rfl))) (hi := rfl) (hf := by rfl) (hg := by rfl) (hdb := by decide) (he := by rfl) (hpl := by rfl)) dls_nil (hs := by rfl)) (hs := by rfl)) (hs := by rfl)) (hs := by rfl)) (hz := by exact sz_of rfl)) (eg_name 4 .int)) ent_refl hs51.2.2.2.1 ?b18 (pg_name (i := 4) sc_law.nd rfl (by first | exact Or.inl rfl | exact Or.inr rfl)) PassesOwn.never (hc := by rfl) (hs := by intro _; rfl)) (cont_lpP (fun (s43 : Unit) => ok_law_44) hs51.2.2.2.2 (fun s43 hs50 => cont_nx (dss_one (ds_ret de_bool)))))) rfl))) rfl))) rfl)) (rets_lp (fun s43 => rets_rt)) h (hΓ := by rfl) (hl := by exact Nat.le_of_ble_eq_true rfl)
    case b18 =>
      refine (fun s22 y23 H24 => ⟨_, (dss_one (ds_forL (fun (s40 : Unit) => [.fr .scr ((((x_law_script)))), .ow false (.lst .int (((m__law_take ((m__law_take ((m__law_take ((v54)) (31 : Int))).2 (6 : Int))).2 (31 : Int))).2)), .fr .str (((v55))), .fr (.lst (.tup (.p2 .bool (.tup .int)))) ((v52)), .fr .int y23, .un]) (s0 := ()) (f := (m_law_L29 ((((v55)))) (y23))) (P := (ok_law_L29 ((((v55)))) (y23))) (di_list (t := (.tup (.p2 .bool (.tup .int)))) (de_frz (do_catL (t := (.tup (.p2 .bool (.tup .int)))) H24.1 (de_var 3 rfl) (de_frz (do_slL (t := (.tup (.p2 .bool (.tup .int)))) (de_var 3 rfl) dp_none (dp_some de_int))))) (eg_name 5 (.tup (.p2 .bool (.tup .int))))) ent_refl H24.2.1 ?b19 (pg_name (i := 5) sc_law.nd rfl (by first | exact Or.inl rfl | exact Or.inr rfl)) PassesOwn.never (hc := by rfl) (hs := by intro _; rfl))), (tn_lp (fun s41 => (tn_nx (ent_wk (.eq (.eq (.eq (.eq (.un (.eq (.nil)))))))))))⟩)
      case b19 =>
        exact (fun s30 y31 H32 => ⟨_, (dss_one (ds_if (dt_not (dt_val (cl_call C__law_right (hr.mono (by decide)) (fun _ _ _ h => ⟨_, _, _, H32.1, h⟩) (da_cons (de_var 2 rfl) (da_cons (de_var 5 rfl) (da_cons (de_var 4 rfl) da_nil (hs := by rfl)) (hs := by rfl)) (hs := by rfl)) (hf := by rfl) (hg := by rfl) (hdb := by decide) (he := by rfl) (hpl := by rfl)) (he := by intro _; rfl))) (fun hb38 => (dss_one (ds_ret de_bool))) (fun hb39 => dss_nil))), (tn_br (fun hb38 => tn_rt) (fun hb39 => (tn_nx (ent_wk (.eq (.eq (.eq (.eq (.eq (.un (.nil)))))))))))⟩))
end Wk

set_option Elab.async false
set_option linter.all false
set_option maxRecDepth 100000
set_option maxHeartbeats 20000000
namespace Wk
open PySem PySem.Spec PyProof.Rows L2 TL Dn
theorem w__law_right {P : Program} {w : World} {K : PySem.W.Frag} {mg : Str → Option Value} {base : Heap} (B : Bt mg) (C_how_many : Cl P w K mg base 1 "how_many" ["colours", "reader", "number"] (pr_how_many K)) (C__law_due : Cl P w K mg base 1 "_law_due" ["_law_rows", "_law_number"] (pr__law_due K)) (C__law_words : Cl P w K mg base 1 "_law_words" ["_law_colours_here", "_law_length"] (pr__law_words K)) (C__law_takes : Cl P w K mg base 1 "_law_takes" ["_law_colours_here", "_law_rows", "_law_word"] (pr__law_takes K)) {f : Addr} {fd : FuncData} (F : Fun K "_law_right" "_law_right" st__law_right f fd) : FnG P w K mg base 2 f fd ["_law_colours_here", "_law_rows", "_law_number"] (pr__law_right K) :=
  fun_okG F sc__law_right (fun vs H Q E h => by obtain ⟨x_law_colours_here, x_law_rows, x_law_number, _, h⟩ := h; exact pm0_len h) (fun cdv A outer s H vs Q E hr h => by
    obtain ⟨x_law_colours_here, x_law_rows, x_law_number, hk, h⟩ := h
    refine ⟨_, pss_wp, ?_⟩
    refine body_F (t := .bool) (Γ0 := [.fr .str x_law_colours_here, .fr (.tup (.p2 .bool (.tup .int))) x_law_rows, .fr .int x_law_number, .un, .un, .un]) (d := default) (dss_cons (ds_set 3 (cl_call C_how_many (hr.mono (by decide)) (fun _ _ _ h => ⟨_, _, _, hk.1, h⟩) (da_cons (de_var 0 rfl) (da_cons (de_var 1 rfl) (da_cons (de_var 2 rfl) da_nil (hs := by rfl)) (hs := by rfl)) (hs := by rfl)) (hf := by rfl) (hg := by rfl) (hdb := by decide) (he := by rfl) (hpl := by rfl)) sc__law_right.nd) (cont_let1 (fun (v29 : Int) => [.fr .str x_law_colours_here, .fr (.tup (.p2 .bool (.tup .int))) x_law_rows, .fr .int x_law_number, .fr .int v29, .un, .un]) ((m_how_many x_law_colours_here x_law_rows x_law_number)) (fun (v29 : Int) => (ok__law_right_1 (x_law_colours_here) (x_law_rows) (x_law_number) (v29))) hk.2 rfl (fun v29 hs28 => (dss_cons (ds_if (dt_pw (dw_or (dt_not (dt_val (de_isi (r := true) (s := "int") (T := "int") B.z_isinstance B.z_int (de_var 3 rfl) (hb := by decide +kernel) (hk := by decide +kernel) (hn := by rfl) (hg := by rfl) (hgT := by rfl) (hnn := by decide) (hdb := by decide) (hs := by rfl) (hs2 := by rfl) (hpl := by rfl)) (he := by intro _; rfl))) (fun hb7 => (dw_or (dt_val (de_isi (r := false) (s := "int") (T := "bool") B.z_isinstance B.z_bool (de_var 3 rfl) (hb := by decide +kernel) (hk := by decide +kernel) (hn := by rfl) (hg := by rfl) (hgT := by rfl) (hnn := by decide) (hdb := by decide) (hs := by rfl) (hs2 := by rfl) (hpl := by rfl)) (he := by intro _; rfl)) (fun hb8 => (dw_or1 (dt_cmp (dc_neS (t := .int) (de_var 3 rfl) (cl_call C__law_due (hr.mono (by decide)) (fun _ _ _ h => ⟨_, _, ((hs28.1 hb7).1 hb8).1, h⟩) (da_cons (de_var 1 rfl) (da_cons (de_var 2 rfl) da_nil (hs := by rfl)) (hs := by rfl)) (hf := by rfl) (hg := by rfl) (hdb := by decide) (he := by rfl) (hpl := by rfl)) (hs := by rfl)) (h1 := by first | exact nobehind _ (by decide) (by decide) | rfl)))) (fun _ => rfl))) (fun _ => rfl))) (fun hb9 => (dss_one (ds_ret de_bool))) (fun hb10 => dss_nil)) (cont_br (fun hb9 => cont_rt) (fun hb10 => (cont_nx (dss_cons (ds_if (dt_cmp (dc_gt (de_var 2 rfl) de_int) (h1 := by first | exact nobehind _ (by decide) (by decide) | rfl)) (fun hb11 => (dss_one (ds_ret de_bool))) (fun hb12 => dss_nil)) (cont_br (fun hb11 => cont_rt) (fun hb12 => (cont_nx (dss_cons (ds_frz 4 (ds_lc 4 (lcq_filt (t := .str) [("_law_word", 5)] (P := (fun (y13 : (List Nat)) => ((Sz (y13).length) ∧ True))) (c := fun (y13 : (List Nat)) => (decide (((y13).length : Int) = (x_law_number)))) (h := fun (y13 : (List Nat)) => y13) (di_list (t := .str) (cl_call C__law_words (hr.mono (by decide)) (fun _ _ _ h => ⟨_, _, ((hs28.2.1 hb10).1 hb12).1, h⟩) (da_cons (de_var 0 rfl) (da_cons (de_var 2 rfl) da_nil (hs := by rfl)) (hs := by rfl)) (hf := by rfl) (hg := by rfl) (hdb := by decide) (he := by rfl) (hpl := by rfl)) (eg_name 5 .str)) (fun _ _ _ _ _ => (pg_name (i := 5) sc__law_right.nd rfl (by first | exact Or.inl rfl | exact Or.inr rfl))) ((hs28.2.1 hb10).1 hb12).2.1 ((hs28.2.1 hb10).1 hb12).2.2.1 ?b16 (show BlkOk ["_law_colours_here", "_law_rows", "_law_number", "_law_found", "_law_some", "_law_word"] (defScope st__law_right) _ _ from ⟨rfl, by decide +kernel, by decide +kernel, by decide +kernel, by decide +kernel⟩) (hw := by rfl) (htg := by decide)) sc__law_right.nd (hy := by rfl) (hyl := by rfl) (hsw := by exact sw_true rfl rfl rfl (by decide +kernel)) (hc := by rfl) (hs := by intro _; rfl)) (hi := rfl)) (cont_let1 (fun (v27 : (List (List Nat))) => [.fr .str (x_law_colours_here), .fr (.tup (.p2 .bool (.tup .int))) (x_law_rows), .fr .int (x_law_number), .fr .int (v29), .fr (.lst .str) v27, .un]) (((List.filter (fun (y13 : (List Nat)) => (decide (((y13).length : Int) = (x_law_number)))) (m__law_words (x_law_colours_here) (x_law_number))).map (fun (y13 : (List Nat)) => y13))) (fun (v27 : (List (List Nat))) => (ok__law_right_16 ((x_law_colours_here)) ((x_law_rows)) ((v29)) (v27))) ((hs28.2.1 hb10).1 hb12).2.2.2 rfl (fun v27 hs26 => (dss_one (ds_ret (de_cmp (dc_eqS (t := .int) (de_var 3 rfl) (de_len (t := .str) B.z_len (dq_L (dl_O (do_lc (lcq_filt (t := .str) [("_law_word", 5)] (P := (fun (y23 : (List Nat)) => ((ok__law_takes ((x_law_colours_here)) ((x_law_rows)) y23) ∧ True))) (c := fun (y23 : (List Nat)) => (m__law_takes ((x_law_colours_here)) ((x_law_rows)) y23)) (h := fun (y23 : (List Nat)) => y23) (di_list (t := .str) (de_var 4 rfl) (eg_name 5 .str)) (fun _ _ _ _ _ => (pg_name (i := 5) sc__law_right.nd rfl (by first | exact Or.inl rfl | exact Or.inr rfl))) hs26.1 hs26.2.1 ?b17 (show BlkOk ["_law_colours_here", "_law_rows", "_law_number", "_law_found", "_law_some", "_law_word"] (defScope st__law_right) _ _ from ⟨rfl, by decide +kernel, by decide +kernel, by decide +kernel, by decide +kernel⟩) (hw := by rfl) (htg := by decide)) sc__law_right.nd (hc := by rfl) (hs := by intro _; rfl)))) (hg := by rfl) (hs := by rfl) (hpl := by rfl)) (hs := by rfl)) (h1 := by first | exact nobehind _ (by decide) (by decide) | rfl))))) rfl))))))))))) rfl)) (rets_br rets_rt (rets_br rets_rt rets_rt)) h (hΓ := by rfl) (hl := by exact Nat.le_of_ble_eq_true rfl)
    case b16 =>
      exact (fun y13 hP14 => ⟨_, _, _, _, (fun _ _ _ _ _ => dts_one (dt_cmp (dc_eqS (t := .int) (de_lenS B.z_len hP14.1 (de_var 5 rfl) (hg := by rfl) (hs := by rfl) (hpl := by rfl)) (de_var 2 rfl) (hs := by rfl)) (h1 := by first | exact nobehind _ (by decide) (by decide) | rfl))), (fun hb15 => (fun _ _ _ _ _ => (de_var 5 rfl))), (.eq (.eq (.eq (.eq (.eq (.un (.nil))))))), (.eq (.eq (.eq (.eq (.eq (.un (.nil))))))), rfl, rfl⟩)
    case b17 =>
      exact (fun y23 hP24 => ⟨_, _, _, _, (fun _ _ _ _ _ => dts_one (dt_val (cl_call C__law_takes (hr.mono (by decide)) (fun _ _ _ h => ⟨_, _, _, hP24.1, h⟩) (da_cons (de_var 0 rfl) (da_cons (de_var 1 rfl) (da_cons (de_var 5 rfl) da_nil (hs := by rfl)) (hs := by rfl)) (hs := by rfl)) (hf := by rfl) (hg := by rfl) (hdb := by decide) (he := by rfl) (hpl := by rfl)) (he := by intro _; rfl))), (fun hb25 => (fun _ _ _ _ _ => (de_var 5 rfl))), (.eq (.eq (.eq (.eq (.eq (.un (.nil))))))), (.eq (.eq (.eq (.eq (.eq (.un (.nil))))))), rfl, rfl⟩))
end Wk

set_option Elab.async false
set_option linter.all false
set_option maxRecDepth 100000
set_option maxHeartbeats 20000000
namespace Wk
open PySem PySem.Spec PyProof.Rows L2 TL Dn
theorem w__law_reader {P : Program} {w : World} {K : PySem.W.Frag} {mg : Str → Option Value} {base : Heap} (B : Bt mg) (C__law_take : Cl P w K mg base 1 "_law_take" ["_law_box_here", "_law_many"] (pr__law_take K)) {f : Addr} {fd : FuncData} (F : Fun K "_law_reader" "_law_reader" st__law_reader f fd) : FnG P w K mg base 2 f fd ["_law_box_here", "_law_colours_here", "_law_most"] (pr__law_reader K) :=
  fun_okG F sc__law_reader (fun vs H Q E h => by obtain ⟨x_law_box_here, x_law_colours_here, x_law_most, _, h⟩ := h; exact pm1_len h) (fun cdv A outer s H vs Q E hr h => by
    obtain ⟨x_law_box_here, x_law_colours_here, x_law_most, hk, h⟩ := h
    refine ⟨_, pss_wp, ?_⟩
    refine body_B (t := (.tup (.p2 .bool (.tup .int)))) (Γ0 := [.ow true (.lst .int x_law_box_here), .fr .str x_law_colours_here, .fr .int x_law_most, .un, .un, .un, .un, .un]) (d := default) (dss_cons (ds_set 3 (de_add de_int (cl_callB 0 C__law_take (hr.mono (by decide)) (fun _ _ _ h => ⟨_, _, hk.1, h⟩) (da_box 0 (da_cons (de_var 2 rfl) da_nil (hs := by rfl))) (hi := rfl) (hf := by rfl) (hg := by rfl) (hdb := by decide) (he := by rfl) (hpl := by rfl))) sc__law_reader.nd) (cont_let2 (fun (v58 : (List Int)) (v59 : Int) => [.ow true (.lst .int v58), .fr .str x_law_colours_here, .fr .int x_law_most, .fr .int v59, .un, .un, .un, .un]) (((m__law_take x_law_box_here x_law_most)).2) (((1 : Int) + ((m__law_take x_law_box_here x_law_most)).1)) (fun (v58 : (List Int)) (v59 : Int) => (ok__law_reader_2 (v58) (x_law_colours_here) (v59))) hk.2 rfl (fun v58 v59 hs57 => (dss_cons (ds_setO 4 (do_lst (t := (.p2 .bool (.tup .int))) dls_nil (hz := by exact sz_of rfl)) sc__law_reader.nd) (cont_let1 (fun (v56 : (List (Bool × (List Int)))) => [.ow true (.lst .int (v58)), .fr .str (x_law_colours_here), .fr .int (x_law_most), .fr .int (v59), .ow false (.lst (.p2 .bool (.tup .int)) v56), .un, .un, .un]) (([] : List (Bool × (List Int)))) (fun (v56 : (List (Bool × (List Int)))) => (ok__law_reader_8 ((v58)) ((x_law_colours_here)) ((v59)) (v56))) hs57 rfl (fun v56 hs55 => (dss_cons (ds_for (fun (s43 : ((List Int) × (List (Bool × (List Int))))) => [.ow true (.lst .int s43.1), .fr .str ((x_law_colours_here)), .fr .int ((x_law_most)), .fr .int ((v59)), .ow false (.lst (.p2 .bool (.tup .int)) s43.2), .un, .un, .un]) (s0 := (((v58)), (v56))) (f := (m__law_reader_L15 (((x_law_colours_here))) (((v59))))) (P := (ok__law_reader_L15 (((x_law_colours_here))) (((v59))))) (di_range1 B.z_range hs55.1 (de_var 3 rfl) (eg_name 5 .int) (hgl := by rfl) (hs := by rfl)) ent_refl hs55.2.1 ?b2 (pg_name (i := 5) sc__law_reader.nd rfl (by first | exact Or.inl rfl | exact Or.inr rfl)) PassesOwn.never (hc := by rfl) (hs := by intro _; rfl)) (cont_let2 (fun (v53 : (List Int)) (v54 : (List (Bool × (List Int)))) => [.ow true (.lst .int v53), .fr .str ((x_law_colours_here)), .fr .int ((x_law_most)), .fr .int ((v59)), .ow false (.lst (.p2 .bool (.tup .int)) v54), .un, .un, .un]) ((((rng 0 ((v59)))).foldl (m__law_reader_L15 (((x_law_colours_here))) (((v59)))) (((v58)), (v56))).1) ((((rng 0 ((v59)))).foldl (m__law_reader_L15 (((x_law_colours_here))) (((v59)))) (((v58)), (v56))).2) (fun (v53 : (List Int)) (v54 : (List (Bool × (List Int)))) => (ok__law_reader_45 (v53) (v54))) hs55.2.2 rfl (fun v53 v54 hs52 => (dss_ent (ent_trans (ent_frz 4 rfl) ent_refl) (dss_one (ds_retB (de_tuple B.z_tuple (dl_of (de_var 4 rfl)) (hg := by rfl) (hs := by rfl) (hpl := by rfl)) (h0 := rfl))))) rfl))) rfl))) rfl)) rets_rt h (hΓ := by rfl) (hl := by exact Nat.le_of_ble_eq_true rfl)
    case b2 =>
      refine (fun s16 y17 H18 => ⟨_, (dss_cons (ds_set 6 (de_cmp (dc_eqS (t := .int) (cl_callB 0 C__law_take (hr.mono (by decide)) (fun _ _ _ h => ⟨_, _, H18.2.2.1, h⟩) (da_box 0 (da_cons (de_ixL (t := .int) (default : Int) H18.2.1 (de_frz (do_lst (t := .int) (dls_cons de_int (dls_cons de_int dls_nil (hs := by rfl)) (hs := by rfl)) (hz := by exact sz_of rfl))) (cl_callB 0 C__law_take (hr.mono (by decide)) (fun _ _ _ h => ⟨_, _, H18.1, h⟩) (da_box 0 (da_cons de_int da_nil (hs := by rfl))) (hi := rfl) (hf := by rfl) (hg := by rfl) (hdb := by decide) (he := by rfl) (hpl := by rfl)) (hs := by exact fun _ _ => rfl)) da_nil (hs := by rfl))) (hi := rfl) (hf := by rfl) (hg := by rfl) (hdb := by decide) (he := by rfl) (hpl := by rfl)) de_int (hs := by rfl)) (h1 := by first | exact nobehind _ (by decide) (by decide) | rfl)) sc__law_reader.nd) (cont_let2 (fun (v41 : (List Int)) (v42 : Bool) => [.ow true (.lst .int v41), .fr .str (((x_law_colours_here))), .fr .int (((x_law_most))), .fr .int (((v59))), .ow false (.lst (.p2 .bool (.tup .int)) s16.2), .fr .int y17, .fr .bool v42, .un]) (((m__law_take ((m__law_take s16.1 (2 : Int))).2 (Dn.get (default : Int) ([(2 : Int), (4 : Int)] : List Int) ((m__law_take s16.1 (2 : Int))).1))).2) ((decide (((m__law_take ((m__law_take s16.1 (2 : Int))).2 (Dn.get (default : Int) ([(2 : Int), (4 : Int)] : List Int) ((m__law_take s16.1 (2 : Int))).1))).1 = (0 : Int)))) (fun (v41 : (List Int)) (v42 : Bool) => (ok__law_reader_24 (v41) ((((x_law_colours_here)))) ((((v59)))) (s16.2) (v42))) H18.2.2.2 rfl (fun v41 v42 hs40 => (dss_one (ds_app 4 hs40.2.2.1 (de_t2 (de_var 6 rfl) (de_tuple B.z_tuple (dl_O (do_lc (lcq_mapS (t := .int) [("_law_colour", 7)] (fun (s39 : (List Int)) => [.ow true (.lst .int s39), .fr .str ((((x_law_colours_here)))), .fr .int ((((x_law_most)))), .fr .int ((((v59)))), .ow false (.lst (.p2 .bool (.tup .int)) (s16.2)), .fr .int (y17), .fr .bool (v42), .un]) (v41) (P := (fun (s36 : (List Int)) (y33 : (List Nat)) => ((ok__law_take s36 ((((v59))))) ∧ True))) (f := (fun (s36 : (List Int)) (y33 : (List Nat)) => (let t37 := (m__law_take s36 ((((v59))))); (t37.1, t37.2)))) (di_str (de_var 1 rfl) (eg_name 7 .str)) rfl (fun _ _ _ _ _ => (pg_name (i := 7) sc__law_reader.nd rfl (by first | exact Or.inl rfl | exact Or.inr rfl))) hs40.1 hs40.2.1 ?b3 (show BlkOk ["_law_box_here", "_law_colours_here", "_law_most", "_law_many", "_law_found", "_law_row", "_law_mark", "_law_colour"] (defScope st__law_reader) _ _ from ⟨rfl, by decide +kernel, by decide +kernel, by decide +kernel, by decide +kernel⟩) (hw := by intro _; rfl) (htg := by decide)) sc__law_reader.nd (hc := by rfl) (hs := by intro _; rfl))) (hg := by rfl) (hs := by rfl) (hpl := by rfl)) (hs := by rfl) (hs2 := by rfl)) (h := rfl) (h0 := by rfl) (hN := by rfl) (hv := by first | exact Or.inl rfl | exact Or.inr (Or.inl rfl) | exact Or.inr (Or.inr rfl)) (hd := by decide) (hcd := by decide) (hbase := by rfl) (hfew := by rfl) (hline := by rfl) (hs := by rfl) (hpl := by rfl) (hsw := by rfl)))) rfl)), (tn_nx (ent_wk (.eq (.eq (.eq (.eq (.eq (.un (.un (.eq (.nil)))))))))))⟩)
      case b3 =>
        exact (fun s36 y33 hP34 => ⟨_, ((m__law_take s36 ((((v59)))))).2, _, (fun _ _ _ _ _ => (cl_callB 0 C__law_take (hr.mono (by decide)) (fun _ _ _ h => ⟨_, _, hP34.1, h⟩) (da_box 0 (da_cons (de_var 3 rfl) da_nil (hs := by rfl))) (hi := rfl) (hf := by rfl) (hg := by rfl) (hdb := by decide) (he := by rfl) (hpl := by rfl))), (.eq (.eq (.eq (.eq (.eq (.eq (.eq (.un (.nil))))))))), rfl⟩))
end Wk

set_option Elab.async false
set_option linter.all false
set_option maxRecDepth 100000
set_option maxHeartbeats 20000000
namespace Wk
open PySem PySem.Spec PyProof.Rows L2 TL Dn
theorem w_how_many {P : Program} {w : World} {K : PySem.W.Frag} {mg : Str → Option Value} {base : Heap} (B : Bt mg)  {f : Addr} {fd : FuncData} (F : Fun K "how_many" "how_many" st_how_many f fd) : FnG P w K mg base 1 f fd ["colours", "reader", "number"] (pr_how_many K) :=
  fun_okG F sc_how_many (fun vs H Q E h => by obtain ⟨x_colours, x_reader, x_number, _, h⟩ := h; exact pm0_len h) (fun cdv A outer s H vs Q E hr h => by
    obtain ⟨x_colours, x_reader, x_number, hk, h⟩ := h
    refine ⟨_, pss_wp, ?_⟩
    refine body_F (t := .int) (Γ0 := [.fr .str x_colours, .fr (.tup (.p2 .bool (.tup .int))) x_reader, .fr .int x_number, .un, .un, .un, .un, .un, .un]) (d := default) (dss_cons (ds_setO 3 (do_dlit1 (t := .int) de_int de_int) sc_how_many.nd) (cont_let1 (fun (v69 : (List (Int × Int))) => [.fr .str x_colours, .fr (.tup (.p2 .bool (.tup .int))) x_reader, .fr .int x_number, .ow false (.dct .int v69), .un, .un, .un, .un, .un]) (([((0 : Int), (1 : Int))] : List (Int × Int))) (fun (v69 : (List (Int × Int))) => (ok_how_many_1 (x_reader) (x_number) (v69))) hk rfl (fun v69 hs68 => (dss_cons (ds_for (fun (s55 : (List (Int × Int))) => [.fr .str (x_colours), .fr (.tup (.p2 .bool (.tup .int))) (x_reader), .fr .int (x_number), .ow false (.dct .int s55), .un, .un, .un, .un, .un]) (s0 := (v69)) (f := (m_how_many_L7 ((x_reader)))) (P := (ok_how_many_L7 ((x_reader)))) (di_range1 B.z_range hs68.1 (de_var 2 rfl) (eg_name 4 .int) (hgl := by rfl) (hs := by rfl)) ent_refl hs68.2.1 ?b4 (pg_name (i := 4) sc_how_many.nd rfl (by first | exact Or.inl rfl | exact Or.inr rfl)) PassesOwn.never (hc := by rfl) (hs := by intro _; rfl)) (cont_let1 (fun (v67 : (List (Int × Int))) => [.fr .str (x_colours), .fr (.tup (.p2 .bool (.tup .int))) (x_reader), .fr .int (x_number), .ow false (.dct .int v67), .un, .un, .un, .un, .un]) ((((rng 0 (x_number))).foldl (m_how_many_L7 ((x_reader))) (v69))) (fun (v67 : (List (Int × Int))) => (ok_how_many_57 ((x_reader)) (v67))) hs68.2.2 rfl (fun v67 hs66 => (dss_one (ds_ret (de_sum B.z_sum (dl_O (do_lc (lcq_filt (t := .int) [("row", 6), ("many", 7)] (P := (fun (y63 : (Int × Int)) => ((IxOk (((x_reader))).length (y63.1)) ∧ True))) (c := fun (y63 : (Int × Int)) => ((Dn.get (default : (Bool × (List Int))) ((x_reader)) (y63.1)).1)) (h := fun (y63 : (Int × Int)) => (y63.2)) (di_itemsD (t := .int) 3 (eg_2 6 7 .int .int)) (fun _ _ _ _ _ => (pg_tup rfl (pgs_cons (pg_name (i := 6) sc_how_many.nd rfl (by first | exact Or.inl rfl | exact Or.inr rfl)) (pgs_cons (pg_name (i := 7) sc_how_many.nd rfl (by first | exact Or.inl rfl | exact Or.inr rfl)) pgs_nil)))) hs66.1 hs66.2.1 ?b5 (show BlkOk ["colours", "reader", "number", "ways", "turn", "behind", "row", "many", "goal"] (defScope st_how_many) _ _ from ⟨rfl, by decide +kernel, by decide +kernel, by decide +kernel, by decide +kernel⟩) (hw := by rfl) (htg := by decide)) sc_how_many.nd (hc := by rfl) (hs := by intro _; rfl))) (hc := by rfl) (hg := by rfl) (hs := by rfl) (hpl := by rfl))))) rfl))) rfl)) rets_rt h (hΓ := by rfl) (hl := by exact Nat.le_of_ble_eq_true rfl)
    case b4 =>
      refine (fun s8 y9 H10 => ⟨_, (dss_cons (ds_setO 5 (do_dnew .int) sc_how_many.nd) (cont_let1 (fun (v54 : (List (Int × Int))) => [.fr .str ((x_colours)), .fr (.tup (.p2 .bool (.tup .int))) ((x_reader)), .fr .int ((x_number)), .ow false (.dct .int s8), .fr .int y9, .ow false (.dct .int v54), .un, .un, .un]) (([] : List (Int × Int))) (fun (v54 : (List (Int × Int))) => (ok_how_many_14 (((x_reader))) (s8) (v54))) H10 rfl (fun v54 hs53 => (dss_cons (ds_for (fun (s42 : (List (Int × Int))) => [.fr .str (((x_colours))), .fr (.tup (.p2 .bool (.tup .int))) (((x_reader))), .fr .int (((x_number))), .un, .fr .int (y9), .ow false (.dct .int s42), .un, .un, .un]) (s0 := (v54)) (f := (m_how_many_L22 ((((x_reader)))))) (P := (ok_how_many_L22 ((((x_reader)))))) (di_itemsD (t := .int) 3 (eg_2 6 7 .int .int)) ent_refl hs53.1 ?b6 (pg_tup rfl (pgs_cons (pg_name (i := 6) sc_how_many.nd rfl (by first | exact Or.inl rfl | exact Or.inr rfl)) (pgs_cons (pg_name (i := 7) sc_how_many.nd rfl (by first | exact Or.inl rfl | exact Or.inr rfl)) pgs_nil))) PassesOwn.never (hc := by rfl) (hs := by intro _; rfl)) (cont_let1 (fun (v52 : (List (Int × Int))) => [.fr .str (((x_colours))), .fr (.tup (.p2 .bool (.tup .int))) (((x_reader))), .fr .int (((x_number))), .un, .fr .int (y9), .ow false (.dct .int v52), .un, .un, .un]) ((((s8)).foldl (m_how_many_L22 ((((x_reader))))) (v54))) (fun (v52 : (List (Int × Int))) => (ok_how_many_44 (v52))) hs53.2 rfl (fun v52 hs51 => (dss_one (ds_setO 3 (do_move 5 rfl) sc_how_many.nd))) rfl))) rfl)), (tn_nx (ent_wk (.eq (.eq (.eq (.eq (.un (.eq (.eq (.eq (.eq (.nil))))))))))))⟩)
      case b6 =>
        refine (fun s23 y24 H25 => ⟨_, (dss_one (ds_for (fun (s40 : (List (Int × Int))) => [.fr .str ((((x_colours)))), .fr (.tup (.p2 .bool (.tup .int))) ((((x_reader)))), .fr .int ((((x_number)))), .un, .fr .int ((y9)), .ow false (.dct .int s40), .fr .int (y24.1), .fr .int (y24.2), .un]) (s0 := s23) (f := (m_how_many_L30 ((y24.2)))) (P := (ok_how_many_L30 ((y24.2)))) (di_tup (t := .int) (de_21 (A := .bool) (B := (.tup .int)) (de_ixU (t := (.p2 .bool (.tup .int))) (default : (Bool × (List Int))) H25.1 (de_var 1 rfl) (de_var 6 rfl) (hs := by exact fun _ _ => rfl))) (eg_name 8 .int)) ent_refl H25.2.1 ?b7 (pg_name (i := 8) sc_how_many.nd rfl (by first | exact Or.inl rfl | exact Or.inr rfl)) PassesOwn.never (hc := by rfl) (hs := by intro _; rfl))), (tn_nx (ent_wk (.eq (.eq (.eq (.eq (.eq (.eq (.un (.un (.eq (.nil))))))))))))⟩)
        case b7 =>
          exact (fun s31 y32 H33 => ⟨_, (dss_one (ds_dput (t := .int) 5 hr H33.1 (de_add (de_dget2 5 hr (de_var 8 rfl) de_int rfl rfl) (de_var 7 rfl)) (de_var 8 rfl) (h1 := rfl) (h2 := rfl) (hN := by rfl) (hv := by first | exact Or.inl rfl | exact Or.inr (Or.inl rfl) | exact Or.inr (Or.inr rfl)) (hd := by decide) (hcd := by decide) (hs := by rfl))), (tn_nx (ent_wk (.eq (.eq (.eq (.eq (.eq (.eq (.eq (.eq (.un (.nil))))))))))))⟩)
    case b5 =>
      exact (fun y63 hP64 => ⟨_, _, _, _, (fun _ _ _ _ _ => dts_one (dt_val (de_20 (A := .bool) (B := (.tup .int)) (de_ixU (t := (.p2 .bool (.tup .int))) (default : (Bool × (List Int))) hP64.1 (de_var 1 rfl) (de_var 6 rfl) (hs := by exact fun _ _ => rfl))) (he := by intro _; rfl))), (fun hb65 => (fun _ _ _ _ _ => (de_var 7 rfl))), (.eq (.eq (.eq (.eq (.eq (.eq (.un (.un (.eq (.nil)))))))))), (.eq (.eq (.eq (.eq (.eq (.eq (.un (.un (.eq (.nil)))))))))), rfl, rfl⟩))
end Wk

set_option Elab.async false
set_option linter.all false
set_option maxRecDepth 100000
set_option maxHeartbeats 20000000
namespace Wk
open PySem PySem.Spec PyProof.Rows L2 TL Dn
theorem w__law_words {P : Program} {w : World} {K : PySem.W.Frag} {mg : Str → Option Value} {base : Heap} (B : Bt mg)  {f : Addr} {fd : FuncData} (F : Fun K "_law_words" "_law_words" st__law_words f fd) : FnG P w K mg base 1 f fd ["_law_colours_here", "_law_length"] (pr__law_words K) :=
  fun_okG F sc__law_words (fun vs H Q E h => by obtain ⟨x_law_colours_here, x_law_length, _, h⟩ := h; exact pm0_len h) (fun cdv A outer s H vs Q E hr h => by
    obtain ⟨x_law_colours_here, x_law_length, hk, h⟩ := h
    refine ⟨_, pss_wp, ?_⟩
    refine body_F (t := (.lst .str)) (Γ0 := [.fr .str x_law_colours_here, .fr .int x_law_length, .un, .un, .un, .un, .un, .un]) (d := default) (dss_cons (ds_set 2 (de_frz (do_lst (t := .str) (dls_cons (de_str []) dls_nil (hs := by rfl)) (hz := by exact sz_of rfl))) sc__law_words.nd) (cont_let1 (fun (v65 : (List (List Nat))) => [.fr .str x_law_colours_here, .fr .int x_law_length, .fr (.lst .str) v65, .un, .un, .un, .un, .un]) (([([] : List Nat)] : List (List Nat))) (fun (v65 : (List (List Nat))) => (ok__law_words_1 (x_law_colours_here) (x_law_length) (v65))) hk rfl (fun v65 hs64 => (dss_cons (ds_set 3 (de_frz (do_lst (t := .str) (dls_cons (de_str []) dls_nil (hs := by rfl)) (hz := by exact sz_of rfl))) sc__law_words.nd) (cont_let1 (fun (v63 : (List (List Nat))) => [.fr .str (x_law_colours_here), .fr .int (x_law_length), .fr (.lst .str) (v65), .fr (.lst .str) v63, .un, .un, .un, .un]) (([([] : List Nat)] : List (List Nat))) (fun (v63 : (List (List Nat))) => (ok__law_words_6 ((x_law_colours_here)) ((x_law_length)) ((v65)) (v63))) hs64 rfl (fun v63 hs62 => (dss_cons (ds_for (fun (s51 : ((List (List Nat)) × (List (List Nat)))) => [.fr .str ((x_law_colours_here)), .fr .int ((x_law_length)), .fr (.lst .str) s51.1, .fr (.lst .str) s51.2, .un, .un, .un, .un]) (s0 := (((v65)), (v63))) (f := (m__law_words_L12 (((x_law_colours_here))))) (P := (ok__law_words_L12 (((x_law_colours_here))))) (di_range1 B.z_range hs62.1 (de_var 1 rfl) (eg_name 4 .int) (hgl := by rfl) (hs := by rfl)) ent_refl hs62.2.1 ?b12 (pg_name (i := 4) sc__law_words.nd rfl (by first | exact Or.inl rfl | exact Or.inr rfl)) PassesOwn.never (hc := by rfl) (hs := by intro _; rfl)) (cont_let2 (fun (v60 : (List (List Nat))) (v61 : (List (List Nat))) => [.fr .str ((x_law_colours_here)), .fr .int ((x_law_length)), .fr (.lst .str) v60, .fr (.lst .str) v61, .un, .un, .un, .un]) ((((rng 0 ((x_law_length)))).foldl (m__law_words_L12 (((x_law_colours_here)))) (((v65)), (v63))).1) ((((rng 0 ((x_law_length)))).foldl (m__law_words_L12 (((x_law_colours_here)))) (((v65)), (v63))).2) (fun (v60 : (List (List Nat))) (v61 : (List (List Nat))) => (ok__law_words_53 (v60))) hs62.2.2 rfl (fun v60 v61 hs59 => (dss_one (ds_ret (de_var 2 rfl)))) rfl))) rfl))) rfl)) rets_rt h (hΓ := by rfl) (hl := by exact Nat.le_of_ble_eq_true rfl)
    case b12 =>
      refine (fun s13 y14 H15 => ⟨_, (dss_cons (ds_setO 5 (do_lst (t := .str) dls_nil (hz := by exact sz_of rfl)) sc__law_words.nd) (cont_let1 (fun (v50 : (List (List Nat))) => [.fr .str (((x_law_colours_here))), .fr .int (((x_law_length))), .fr (.lst .str) s13.1, .fr (.lst .str) s13.2, .fr .int y14, .ow false (.lst .str v50), .un, .un]) (([] : List (List Nat))) (fun (v50 : (List (List Nat))) => (ok__law_words_18 ((((x_law_colours_here)))) (s13.1) (s13.2) (v50))) H15 rfl (fun v50 hs49 => (dss_cons (ds_for (fun (s37 : (List (List Nat))) => [.fr .str ((((x_law_colours_here)))), .fr .int ((((x_law_length)))), .fr (.lst .str) (s13.1), .fr (.lst .str) (s13.2), .fr .int (y14), .ow false (.lst .str s37), .un, .un]) (s0 := (v50)) (f := (m__law_words_L26 (((((x_law_colours_here))))))) (P := (ok__law_words_L26 (((((x_law_colours_here))))))) (di_list (t := .str) (de_var 3 rfl) (eg_name 6 .str)) ent_refl hs49.1 ?b13 (pg_name (i := 6) sc__law_words.nd rfl (by first | exact Or.inl rfl | exact Or.inr rfl)) PassesOwn.never (hc := by rfl) (hs := by intro _; rfl)) (cont_let1 (fun (v48 : (List (List Nat))) => [.fr .str ((((x_law_colours_here)))), .fr .int ((((x_law_length)))), .fr (.lst .str) (s13.1), .fr (.lst .str) (s13.2), .fr .int (y14), .ow false (.lst .str v48), .un, .un]) ((((s13.2)).foldl (m__law_words_L26 (((((x_law_colours_here)))))) (v50))) (fun (v48 : (List (List Nat))) => (ok__law_words_39 ((s13.1)) (v48))) hs49.2 rfl (fun v48 hs47 => (dss_ent (ent_trans (ent_frz 5 rfl) ent_refl) (dss_cons (ds_set 3 (de_var 5 rfl) sc__law_words.nd) (cont_nx (dss_one (ds_set 2 (de_frz (do_catL (t := .str) hs47.1 (de_var 2 rfl) (de_var 3 rfl))) sc__law_words.nd)))))) rfl))) rfl)), (tn_nx (ent_wk (.eq (.eq (.eq (.eq (.un (.un (.eq (.eq (.nil)))))))))))⟩)
      case b13 =>
        refine (fun s27 y28 H29 => ⟨_, (dss_one (ds_ext 5 H29.2.2.1 (do_lc (lcq_map (t := .str) [("_law_colour", 7)] (P := (fun (y35 : (List Nat)) => ((Sz ((y28).length + (y35).length)) ∧ True))) (h := fun (y35 : (List Nat)) => (y28 ++ y35)) (di_str (de_var 0 rfl) (eg_name 7 .str)) (fun _ _ _ _ _ => (pg_name (i := 7) sc__law_words.nd rfl (by first | exact Or.inl rfl | exact Or.inr rfl))) H29.1 H29.2.1 ?b14 (show BlkOk ["_law_colours_here", "_law_length", "_law_found", "_law_row", "_law_turn", "_law_more", "_law_word", "_law_colour"] (defScope st__law_words) _ _ from ⟨rfl, by decide +kernel, by decide +kernel, by decide +kernel, by decide +kernel⟩) (hw := by rfl) (htg := by decide)) sc__law_words.nd (hc := by rfl) (hs := by intro _; rfl)) (h := rfl) (h0 := by rfl) (hN := by rfl) (hv := by first | exact Or.inl rfl | exact Or.inr (Or.inl rfl) | exact Or.inr (Or.inr rfl)) (hd := by decide) (hcd := by decide) (hbase := by rfl) (hfew := by rfl) (hline := by rfl) (hs := by rfl) (hpl := by rfl) (hsw := by rfl))), (tn_nx (ent_wk (.eq (.eq (.eq (.eq (.eq (.eq (.un (.eq (.nil)))))))))))⟩)
        case b14 =>
          exact (fun y35 hP36 => ⟨_, _, (fun _ _ _ _ _ => (de_cat hP36.1 (de_var 6 rfl) (de_var 7 rfl))), (.eq (.eq (.eq (.eq (.eq (.eq (.eq (.un (.nil))))))))), rfl⟩))
theorem w__law_takes {P : Program} {w : World} {K : PySem.W.Frag} {mg : Str → Option Value} {base : Heap} (B : Bt mg)  {f : Addr} {fd : FuncData} (F : Fun K "_law_takes" "_law_takes" st__law_takes f fd) : FnG P w K mg base 1 f fd ["_law_colours_here", "_law_rows", "_law_word"] (pr__law_takes K) :=
  fun_okG F sc__law_takes (fun vs H Q E h => by obtain ⟨x_law_colours_here, x_law_rows, x_law_word, _, h⟩ := h; exact pm0_len h) (fun cdv A outer s H vs Q E hr h => by
    obtain ⟨x_law_colours_here, x_law_rows, x_law_word, hk, h⟩ := h
    refine ⟨_, pss_wp, ?_⟩
    refine body_F (t := .bool) (Γ0 := [.fr .str x_law_colours_here, .fr (.tup (.p2 .bool (.tup .int))) x_law_rows, .fr .str x_law_word, .un, .un]) (d := default) (dss_cons (ds_set 3 de_int sc__law_takes.nd) (cont_nx (dss_cons (ds_for (fun (s8 : Int) => [.fr .str x_law_colours_here, .fr (.tup (.p2 .bool (.tup .int))) x_law_rows, .fr .str x_law_word, .fr .int s8, .un]) (s0 := (0 : Int)) (f := (m__law_takes_L1 (x_law_colours_here) (x_law_rows))) (P := (ok__law_takes_L1 (x_law_colours_here) (x_law_rows))) (di_str (de_var 2 rfl) (eg_name 4 .str)) ent_refl hk.1 ?b15 (pg_name (i := 4) sc__law_takes.nd rfl (by first | exact Or.inl rfl | exact Or.inr rfl)) PassesOwn.never (hc := by rfl) (hs := by intro _; rfl)) (cont_let1 (fun (v17 : Int) => [.fr .str x_law_colours_here, .fr (.tup (.p2 .bool (.tup .int))) x_law_rows, .fr .str x_law_word, .fr .int v17, .un]) ((((chars x_law_word)).foldl (m__law_takes_L1 (x_law_colours_here) (x_law_rows)) (0 : Int))) (fun (v17 : Int) => (ok__law_takes_10 (x_law_rows) (v17))) hk.2 rfl (fun v17 hs16 => (dss_one (ds_ret (de_20 (A := .bool) (B := (.tup .int)) (de_ixU (t := (.p2 .bool (.tup .int))) (default : (Bool × (List Int))) hs16.1 (de_var 1 rfl) (de_var 3 rfl) (hs := by exact fun _ _ => rfl)))))) rfl)))) rets_rt h (hΓ := by rfl) (hl := by exact Nat.le_of_ble_eq_true rfl)
    case b15 =>
      exact (fun s2 y3 H4 => ⟨_, (dss_one (ds_set 3 (de_ixU (t := .int) (default : Int) H4.2.1 (de_21 (A := .bool) (B := (.tup .int)) (de_ixU (t := (.p2 .bool (.tup .int))) (default : (Bool × (List Int))) H4.1 (de_var 1 rfl) (de_var 3 rfl) (hs := by exact fun _ _ => rfl))) (de_find (de_var 0 rfl) (de_var 4 rfl) (hs := by rfl) (hbase := by rfl) (hline := by rfl)) (hs := by exact fun _ _ => rfl)) sc__law_takes.nd)), (tn_nx (ent_wk (.eq (.eq (.eq (.eq (.un (.nil))))))))⟩))
end Wk

set_option Elab.async false
set_option linter.all false
set_option maxRecDepth 100000
set_option maxHeartbeats 20000000
namespace Wk
open PySem PySem.Spec PyProof.Rows L2 TL Dn
theorem w__law_due {P : Program} {w : World} {K : PySem.W.Frag} {mg : Str → Option Value} {base : Heap} (B : Bt mg)  {f : Addr} {fd : FuncData} (F : Fun K "_law_due" "_law_due" st__law_due f fd) : FnG P w K mg base 1 f fd ["_law_rows", "_law_number"] (pr__law_due K) :=
  fun_okG F sc__law_due (fun vs H Q E h => by obtain ⟨x_law_rows, x_law_number, _, h⟩ := h; exact pm0_len h) (fun cdv A outer s H vs Q E hr h => by
    obtain ⟨x_law_rows, x_law_number, hk, h⟩ := h
    refine ⟨_, pss_wp, ?_⟩
    refine body_F (t := .int) (Γ0 := [.fr (.tup (.p2 .bool (.tup .int))) x_law_rows, .fr .int x_law_number, .un, .un, .un, .un, .un]) (d := default) (dss_cons (ds_set 2 (de_frz (do_lc (lcq_map (t := .int) [("_law_mark", 4), ("_law_goes", 5)] (P := (fun (y1 : (Bool × (List Int))) => True)) (h := fun (y1 : (Bool × (List Int))) => (b2z (y1.1))) (di_tup (t := (.p2 .bool (.tup .int))) (de_var 0 rfl) (eg_2 4 5 .bool (.tup .int))) (fun _ _ _ _ _ => (pg_tup rfl (pgs_cons (pg_name (i := 4) sc__law_due.nd rfl (by first | exact Or.inl rfl | exact Or.inr rfl)) (pgs_cons (pg_name (i := 5) sc__law_due.nd rfl (by first | exact Or.inl rfl | exact Or.inr rfl)) pgs_nil)))) hk.1 (fun _ _ => trivial) ?b8 (show BlkOk ["_law_rows", "_law_number", "_law_ways", "_law_turn", "_law_mark", "_law_goes", "_law_goal"] (defScope st__law_due) _ _ from ⟨rfl, by decide +kernel, by decide +kernel, by decide +kernel, by decide +kernel⟩) (hw := by rfl) (htg := by decide)) sc__law_due.nd (hc := by rfl) (hs := by intro _; rfl))) sc__law_due.nd) (cont_let1 (fun (v28 : (List Int)) => [.fr (.tup (.p2 .bool (.tup .int))) x_law_rows, .fr .int x_law_number, .fr (.lst .int) v28, .un, .un, .un, .un]) ((List.map (fun (y1 : (Bool × (List Int))) => (b2z (y1.1))) x_law_rows)) (fun (v28 : (List Int)) => (ok__law_due_3 (x_law_rows) (x_law_number) (v28))) hk.2 rfl (fun v28 hs27 => (dss_cons (ds_for (fun (s18 : (List Int)) => [.fr (.tup (.p2 .bool (.tup .int))) (x_law_rows), .fr .int (x_law_number), .fr (.lst .int) s18, .un, .un, .un, .un]) (s0 := (v28)) (f := (m__law_due_L8 ((x_law_rows)))) (P := (ok__law_due_L8 ((x_law_rows)))) (di_range1 B.z_range hs27.1 (de_var 1 rfl) (eg_name 3 .int) (hgl := by rfl) (hs := by rfl)) ent_refl hs27.2.1 ?b9 (pg_name (i := 3) sc__law_due.nd rfl (by first | exact Or.inl rfl | exact Or.inr rfl)) PassesOwn.never (hc := by rfl) (hs := by intro _; rfl)) (cont_let1 (fun (v26 : (List Int)) => [.fr (.tup (.p2 .bool (.tup .int))) (x_law_rows), .fr .int (x_law_number), .fr (.lst .int) v26, .un, .un, .un, .un]) ((((rng 0 (x_law_number))).foldl (m__law_due_L8 ((x_law_rows))) (v28))) (fun (v26 : (List Int)) => (ok__law_due_20 (v26))) hs27.2.2 rfl (fun v26 hs25 => (dss_one (ds_ret (de_ixL (t := .int) (default : Int) hs25.1 (de_var 2 rfl) de_int (hs := by exact fun _ _ => rfl))))) rfl))) rfl)) rets_rt h (hΓ := by rfl) (hl := by exact Nat.le_of_ble_eq_true rfl)
    case b8 =>
      exact (fun y1 hP2 => ⟨_, _, (fun _ _ _ _ _ => (de_intB B.z_int (de_var 4 rfl) (hg := by rfl) (hs := by rfl) (hpl := by rfl))), (.eq (.eq (.eq (.eq (.un (.un (.eq (.nil)))))))), rfl⟩)
    case b9 =>
      refine (fun s9 y10 H11 => ⟨_, (dss_one (ds_set 2 (de_frz (do_lc (lcq_map (t := .int) [("_law_mark", 4), ("_law_goes", 5)] (P := (fun (y14 : (Bool × (List Int))) => ((Sz ((y14.2)).length) ∧ ((∀ y16 ∈ (y14.2), ((IxOk (s9).length y16) ∧ True)) ∧ True)))) (h := fun (y14 : (Bool × (List Int))) => (((List.map (fun (y16 : Int) => (Dn.get (default : Int) s9 y16)) (y14.2))).sum)) (di_tup (t := (.p2 .bool (.tup .int))) (de_var 0 rfl) (eg_2 4 5 .bool (.tup .int))) (fun _ _ _ _ _ => (pg_tup rfl (pgs_cons (pg_name (i := 4) sc__law_due.nd rfl (by first | exact Or.inl rfl | exact Or.inr rfl)) (pgs_cons (pg_name (i := 5) sc__law_due.nd rfl (by first | exact Or.inl rfl | exact Or.inr rfl)) pgs_nil)))) H11.1 H11.2.1 ?b10 (show BlkOk ["_law_rows", "_law_number", "_law_ways", "_law_turn", "_law_mark", "_law_goes", "_law_goal"] (defScope st__law_due) _ _ from ⟨rfl, by decide +kernel, by decide +kernel, by decide +kernel, by decide +kernel⟩) (hw := by rfl) (htg := by decide)) sc__law_due.nd (hc := by rfl) (hs := by intro _; rfl))) sc__law_due.nd)), (tn_nx (ent_wk (.eq (.eq (.eq (.un (.eq (.eq (.eq (.nil))))))))))⟩)
      case b10 =>
        refine (fun y14 hP15 => ⟨_, _, (fun _ _ _ _ _ => (de_sum B.z_sum (dl_O (do_lc (lcq_map (t := .int) [("_law_goal", 6)] (P := (fun (y16 : Int) => ((IxOk (s9).length y16) ∧ True))) (h := fun (y16 : Int) => (Dn.get (default : Int) s9 y16)) (di_tup (t := .int) (de_var 5 rfl) (eg_name 6 .int)) (fun _ _ _ _ _ => (pg_name (i := 6) sc__law_due.nd rfl (by first | exact Or.inl rfl | exact Or.inr rfl))) hP15.1 hP15.2.1 ?b11 (by show BlkOk ["_law_rows", "_law_number", "_law_ways", "_law_turn", "_law_mark", "_law_goes", "_law_goal"] _ _ _; exact ⟨rfl, by decide +kernel, by decide +kernel, by (repeat' (first | exact allMem_nil | refine allMem_cons ?_ ?_)) <;> (intro hf; first | (cases hf; done) | exact Or.inl rfl | exact Or.inr rfl), by decide +kernel⟩) (hw := by rfl) (htg := by decide)) sc__law_due.nd (hc := by rfl) (hs := by intro _; rfl))) (hc := by rfl) (hg := by rfl) (hs := by rfl) (hpl := by rfl))), (.eq (.eq (.eq (.eq (.un (.un (.eq (.nil)))))))), rfl⟩)
        case b11 =>
          exact (fun y16 hP17 => ⟨_, _, (fun _ _ _ _ _ => (de_ixL (t := .int) (default : Int) hP17.1 (de_var 2 rfl) (de_var 6 rfl) (hs := by exact fun _ _ => rfl))), (.eq (.eq (.eq (.eq (.eq (.eq (.un (.nil)))))))), rfl⟩))
theorem w__law_colours {P : Program} {w : World} {K : PySem.W.Frag} {mg : Str → Option Value} {base : Heap} (B : Bt mg) (C__law_take : Cl P w K mg base 1 "_law_take" ["_law_box_here", "_law_many"] (pr__law_take K)) {f : Addr} {fd : FuncData} (F : Fun K "_law_colours" "_law_colours" st__law_colours f fd) : FnG P w K mg base 2 f fd ["_law_box_here", "_law_many"] (pr__law_colours K) :=
  fun_okG F sc__law_colours (fun vs H Q E h => by obtain ⟨x_law_box_here, x_law_many, _, h⟩ := h; exact pm1_len h) (fun cdv A outer s H vs Q E hr h => by
    obtain ⟨x_law_box_here, x_law_many, hk, h⟩ := h
    refine ⟨_, pss_wp, ?_⟩
    refine body_B (t := .str) (Γ0 := [.ow true (.lst .int x_law_box_here), .fr .int x_law_many, .un, .un]) (d := default) (dss_cons (ds_setO 2 (do_listS B.z_list hk.1 (de_str [97, 98, 99, 100, 101, 102, 103, 104, 105, 106, 107, 108, 109, 110, 111, 112, 113, 114, 115, 116, 117, 118, 119, 120, 121, 122]) (hc := by rfl) (hg := by rfl) (hs := by rfl) (hpl := by rfl)) sc__law_colours.nd) (cont_let1 (fun (v14 : (List (List Nat))) => [.ow true (.lst .int x_law_box_here), .fr .int x_law_many, .ow false (.lst .str v14), .un]) ((chars ([97, 98, 99, 100, 101, 102, 103, 104, 105, 106, 107, 108, 109, 110, 111, 112, 113, 114, 115, 116, 117, 118, 119, 120, 121, 122] : List Nat))) (fun (v14 : (List (List Nat))) => (ok__law_colours_1 (x_law_box_here) (x_law_many) (v14))) hk.2 rfl (fun v14 hs13 => (dss_one (ds_retB (de_join hs13.2.2.2.2.1 (de_str []) (dq_L (dl_O (do_sorted hr B.z_sorted hs13.2.2.2.1 (dl_O (do_lc (lcq_mapS (t := .str) [("_law_k", 3)] (fun (s12 : ((List Int) × (List (List Nat)))) => [.ow true (.lst .int s12.1), .fr .int (x_law_many), .ow false (.lst .str s12.2), .un]) ((x_law_box_here), (v14)) (P := (fun (s9 : ((List Int) × (List (List Nat)))) (y6 : Int) => ((ok__law_take s9.1 ((s9.2).length : Int)) ∧ (let t10 := (m__law_take s9.1 ((s9.2).length : Int)); ((IxOk (s9.2).length t10.1) ∧ ((Sz (s9.2).length) ∧ True)))))) (f := (fun (s9 : ((List Int) × (List (List Nat)))) (y6 : Int) => (let t10 := (m__law_take s9.1 ((s9.2).length : Int)); ((Dn.get (default : (List Nat)) s9.2 t10.1), (t10.2, ((s9.2).eraseIdx (ix (s9.2).length t10.1))))))) (di_range1 B.z_range hs13.1 (de_var 1 rfl) (eg_name 3 .int) (hgl := by rfl) (hs := by rfl)) rfl (fun _ _ _ _ _ => (pg_name (i := 3) sc__law_colours.nd rfl (by first | exact Or.inl rfl | exact Or.inr rfl))) hs13.2.1 hs13.2.2.1 ?b1 (show BlkOk ["_law_box_here", "_law_many", "_law_left", "_law_k"] (defScope st__law_colours) _ _ from ⟨rfl, by decide +kernel, by decide +kernel, by decide +kernel, by decide +kernel⟩) (hw := by intro _; rfl) (htg := by decide)) sc__law_colours.nd (hc := by rfl) (hs := by intro _; rfl))) (hc := by rfl) (hd := by decide) (hg := by rfl) (hs := by rfl) (hpl := by rfl)))) (hs := by rfl) (hbase := by rfl) (hline := by rfl)) (h0 := rfl)))) rfl)) rets_rt h (hΓ := by rfl) (hl := by exact Nat.le_of_ble_eq_true rfl)
    case b1 =>
      exact (fun s9 y6 hP7 => ⟨_, (((m__law_take s9.1 ((s9.2).length : Int))).2, ((s9.2).eraseIdx (ix (s9.2).length ((m__law_take s9.1 ((s9.2).length : Int))).1))), _, (fun _ _ _ _ _ => (de_eq (de_popAt (t := .str) 2 (default : (List Nat)) hP7.2.1 hP7.2.2.1 (cl_callB 0 C__law_take (hr.mono (by decide)) (fun _ _ _ h => ⟨_, _, hP7.1, h⟩) (da_box 0 (da_cons (de_len (t := .str) B.z_len (dq_L (dl_V 2 rfl)) (hg := by rfl) (hs := by rfl) (hpl := by rfl)) da_nil (hs := by rfl))) (hi := rfl) (hf := by rfl) (hg := by rfl) (hdb := by decide) (he := by rfl) (hpl := by rfl)) (h := rfl) (h0 := by rfl) (hN := by rfl) (hv := by first | exact Or.inl rfl | exact Or.inr (Or.inl rfl) | exact Or.inr (Or.inr rfl)) (hd := by decide) (hcd := by decide) (hbase := by rfl) (hfew := by rfl) (hline := by rfl) (hs := by rfl) (hpl := by rfl)) rfl rfl)), (.eq (.eq (.eq (.un (.nil))))), rfl⟩))
end Wk

set_option Elab.async false
set_option linter.all false
set_option maxRecDepth 100000
set_option maxHeartbeats 20000000
namespace Wk
open PySem PySem.Spec PyProof.Rows L2 TL Dn
theorem w__law_take {P : Program} {w : World} {K : PySem.W.Frag} {mg : Str → Option Value} {base : Heap} (B : Bt mg)  {f : Addr} {fd : FuncData} (F : Fun K "_law_take" "_law_take" st__law_take f fd) : FnG P w K mg base 1 f fd ["_law_box_here", "_law_many"] (pr__law_take K) :=
  fun_okG F sc__law_take (fun vs H Q E h => by obtain ⟨x_law_box_here, x_law_many, _, h⟩ := h; exact pm1_len h) (fun cdv A outer s H vs Q E hr h => by
    obtain ⟨x_law_box_here, x_law_many, hk, h⟩ := h
    refine ⟨_, pss_wp, ?_⟩
    exact body_B (t := .int) (Γ0 := [.ow true (.lst .int x_law_box_here), .fr .int x_law_many, .un, .un]) (d := default) (dss_cons (ds_if (dt_cmp (dc_gt (de_ixV (t := .int) 0 (default : Int) hk.1 de_int (h := rfl) (hN := by rfl) (hv := by first | exact Or.inl rfl | exact Or.inr (Or.inl rfl) | exact Or.inr (Or.inr rfl)) (h0 := by rfl) (hd := by decide) (hcd := by decide) (hs := by exact fun _ _ => rfl)) de_int) (h1 := by first | exact nobehind _ (by decide) (by decide) | rfl)) (fun hb1 => (dss_cons (ds_set 2 (de_mod (j := x_law_many) (hk.2.1 hb1).2.1 (de_ixV (t := .int) 0 (default : Int) (hk.2.1 hb1).1 de_int (h := rfl) (hN := by rfl) (hv := by first | exact Or.inl rfl | exact Or.inr (Or.inl rfl) | exact Or.inr (Or.inr rfl)) (h0 := by rfl) (hd := by decide) (hcd := by decide) (hs := by exact fun _ _ => rfl)) (de_var 1 rfl)) sc__law_take.nd) (cont_let1 (fun (v15 : Int) => [.ow true (.lst .int x_law_box_here), .fr .int x_law_many, .fr .int v15, .un]) (((Dn.get (default : Int) x_law_box_here (0 : Int)) % x_law_many)) (fun (v15 : Int) => (ok__law_take_2 (x_law_box_here) (x_law_many) (v15))) (hk.2.1 hb1).2.2 rfl (fun v15 hs14 => (dss_cons (ds_setix 0 hs14.2.2.1 (de_fdiv (j := (x_law_many)) hs14.2.1 (de_ixV (t := .int) 0 (default : Int) hs14.1 de_int (h := rfl) (hN := by rfl) (hv := by first | exact Or.inl rfl | exact Or.inr (Or.inl rfl) | exact Or.inr (Or.inr rfl)) (h0 := by rfl) (hd := by decide) (hcd := by decide) (hs := by exact fun _ _ => rfl)) (de_var 1 rfl)) de_int (h := rfl) (h0 := by rfl) (hN := by rfl) (hv := by first | exact Or.inl rfl | exact Or.inr (Or.inl rfl) | exact Or.inr (Or.inr rfl)) (hd := by decide) (hcd := by decide) (ha := by intro _; rfl) (hs := by rfl) (hw := by rfl) (h1 := by rfl)) (cont_let1 (fun (v13 : (List Int)) => [.ow true (.lst .int v13), .fr .int (x_law_many), .fr .int (v15), .un]) ((((x_law_box_here)).set (ix ((x_law_box_here)).length (0 : Int)) ((Dn.get (default : Int) (x_law_box_here) (0 : Int)) / (x_law_many)))) (fun (v13 : (List Int)) => (ok__law_take_7 (v13) ((v15)))) hs14.2.2.2 rfl (fun v13 hs12 => (dss_one (ds_retB (de_var 2 rfl) (h0 := rfl)))) rfl))) rfl))) (fun hb16 => dss_nil)) (cont_br (fun hb1 => cont_rt) (fun hb16 => (cont_nx (dss_cons (ds_set 3 (de_mod (j := (2147483647 : Int)) (by decide +kernel) (de_mul (hk.2.2.1 hb16).2.1 (de_ixV (t := .int) 0 (default : Int) (hk.2.2.1 hb16).1 de_int (h := rfl) (hN := by rfl) (hv := by first | exact Or.inl rfl | exact Or.inr (Or.inl rfl) | exact Or.inr (Or.inr rfl)) (h0 := by rfl) (hd := by decide) (hcd := by decide) (hs := by exact fun _ _ => rfl)) de_int) de_int) sc__law_take.nd) (cont_let1 (fun (v30 : Int) => [.ow true (.lst .int x_law_box_here), .fr .int x_law_many, .un, .fr .int v30]) ((((Dn.get (default : Int) x_law_box_here (1 : Int)) * (69623 : Int)) % (2147483647 : Int))) (fun (v30 : Int) => (ok__law_take_17 (x_law_box_here) (x_law_many) (v30))) (hk.2.2.1 hb16).2.2 rfl (fun v30 hs29 => (dss_cons (ds_setix 0 hs29.2.1 (de_add (de_mod (j := (2147483629 : Int)) (by decide +kernel) (de_add (de_mul hs29.1 (de_var 3 rfl) de_int) de_int) de_int) de_int) de_int (h := rfl) (h0 := by rfl) (hN := by rfl) (hv := by first | exact Or.inl rfl | exact Or.inr (Or.inl rfl) | exact Or.inr (Or.inr rfl)) (hd := by decide) (hcd := by decide) (ha := by intro _; rfl) (hs := by rfl) (hw := by rfl) (h1 := by rfl)) (cont_let1 (fun (v28 : (List Int)) => [.ow true (.lst .int v28), .fr .int (x_law_many), .un, .fr .int (v30)]) ((((x_law_box_here)).set (ix ((x_law_box_here)).length (1 : Int)) (((((v30) * (48271 : Int)) + (30103 : Int)) % (2147483629 : Int)) + (1 : Int)))) (fun (v28 : (List Int)) => (ok__law_take_22 (v28) ((x_law_many)) ((v30)))) hs29.2.2 rfl (fun v28 hs27 => (dss_one (ds_retB (de_mod (j := ((x_law_many))) hs27.2.2.1 (de_fdiv (j := (8191 : Int)) (by decide +kernel) (de_add (de_mul hs27.1 (de_var 3 rfl) de_int) (de_ixV (t := .int) 0 (default : Int) hs27.2.1 de_int (h := rfl) (hN := by rfl) (hv := by first | exact Or.inl rfl | exact Or.inr (Or.inl rfl) | exact Or.inr (Or.inr rfl)) (h0 := by rfl) (hd := by decide) (hcd := by decide) (hs := by exact fun _ _ => rfl))) de_int) (de_var 1 rfl)) (h0 := rfl)))) rfl))) rfl)))))) (rets_br rets_rt rets_rt) h (hΓ := by rfl) (hl := by exact Nat.le_of_ble_eq_true rfl))
theorem w__law_box {P : Program} {w : World} {K : PySem.W.Frag} {mg : Str → Option Value} {base : Heap} (B : Bt mg)  {f : Addr} {fd : FuncData} (F : Fun K "_law_box" "_law_box" st__law_box f fd) : FnG P w K mg base 1 f fd ["_law_script", "_law_k"] (pr__law_box K) :=
  fun_okG F sc__law_box (fun vs H Q E h => by obtain ⟨x_law_script, x_law_k, _, h⟩ := h; exact pm0_len h) (fun cdv A outer s H vs Q E hr h => by
    obtain ⟨x_law_script, x_law_k, hk, h⟩ := h
    refine ⟨_, pss_wp, ?_⟩
    exact body_O (t := .int) (Γ0 := [.fr .scr x_law_script, .fr .int x_law_k, .un, .un]) (d := default) (dss_cons (ds_set 2 (de_add (de_mul hk.1 de_int (de_var 1 rfl)) de_int) sc__law_box.nd) (cont_let1 (fun (v30 : Int) => [.fr .scr x_law_script, .fr .int x_law_k, .fr .int v30, .un]) ((((7919 : Int) * x_law_k) + (11 : Int))) (fun (v30 : Int) => (ok__law_box_1 (x_law_script) (x_law_k) (v30))) hk.2 rfl (fun v30 hs29 => (dss_cons (ds_joinE (fun (s13 : Int) => [.fr .scr (x_law_script), .fr .int (x_law_k), .fr .int s13, .un]) (bif (decide ((x_law_k) < (((x_law_script)).length : Int))) then (Dn.get 0 (x_law_script) (x_law_k)) else (let j10 := (bif (decide ((0 : Int) < (((x_law_script)).length : Int))) then ((v30) + (((Dn.get 0 (x_law_script) ((x_law_k) % (((x_law_script)).length : Int))) % (2147483629 : Int)) * (69623 : Int))) else (v30)); j10)) rfl (ds_if (dt_cmp (dc_lt (de_var 1 rfl) (de_len (t := .int) B.z_len (dq_L (dl_scr (de_var 0 rfl))) (hg := by rfl) (hs := by rfl) (hpl := by rfl))) (h1 := by first | exact nobehind _ (by decide) (by decide) | rfl)) (fun hb6 => (dss_one (ds_set 2 (de_ixR (hs29.1 hb6).1 (de_var 0 rfl) (de_var 1 rfl) (hs := by exact fun _ _ => rfl)) sc__law_box.nd))) (fun hb7 => (dss_one (ds_joinE (fun (s11 : Int) => [.fr .scr (x_law_script), .fr .int (x_law_k), .fr .int s11, .un]) (bif (decide ((0 : Int) < (((x_law_script)).length : Int))) then ((v30) + (((Dn.get 0 (x_law_script) ((x_law_k) % (((x_law_script)).length : Int))) % (2147483629 : Int)) * (69623 : Int))) else (v30)) rfl (ds_if (dt_cmp (dc_gt (de_len (t := .int) B.z_len (dq_L (dl_scr (de_var 0 rfl))) (hg := by rfl) (hs := by rfl) (hpl := by rfl)) de_int) (h1 := by first | exact nobehind _ (by decide) (by decide) | rfl)) (fun hb8 => (dss_one (ds_set 2 (de_add (de_var 2 rfl) (de_mul ((hs29.2.1 hb7).1 hb8).2.2.1 (de_mod (j := (2147483629 : Int)) (by decide +kernel) (de_ixR ((hs29.2.1 hb7).1 hb8).2.1 (de_var 0 rfl) (de_mod (j := (((x_law_script)).length : Int)) ((hs29.2.1 hb7).1 hb8).1 (de_var 1 rfl) (de_len (t := .int) B.z_len (dq_L (dl_scr (de_var 0 rfl))) (hg := by rfl) (hs := by rfl) (hpl := by rfl))) (hs := by exact fun _ _ => rfl)) de_int) de_int)) sc__law_box.nd))) (fun hb9 => dss_nil)) (Nx.br (fun _ => (Nx.nx ent_refl)) (fun _ => (Nx.nx ent_refl))))))) (Nx.br (fun _ => (Nx.nx ent_refl)) (fun _ => (Nx.nx ent_refl)))) (cont_let1 (fun (v28 : Int) => [.fr .scr (x_law_script), .fr .int (x_law_k), .fr .int v28, .un]) (((bif (decide ((x_law_k) < (((x_law_script)).length : Int))) then (Dn.get 0 (x_law_script) (x_law_k)) else (let j10 := (bif (decide ((0 : Int) < (((x_law_script)).length : Int))) then ((v30) + (((Dn.get 0 (x_law_script) ((x_law_k) % (((x_law_script)).length : Int))) % (2147483629 : Int)) * (69623 : Int))) else (v30)); j10)))) (fun (v28 : Int) => (ok__law_box_14 ((x_law_k)) (v28))) hs29.2.2 rfl (fun v28 hs27 => (dss_cons (ds_set 3 (de_add (de_mod (j := (2147483629 : Int)) (by decide +kernel) (de_add (de_mul hs27.1 (de_mod (j := (2147483629 : Int)) (by decide +kernel) (de_var 2 rfl) de_int) de_int) (de_mul hs27.2.1 de_int (de_var 1 rfl))) de_int) de_int) sc__law_box.nd) (cont_let1 (fun (v26 : Int) => [.fr .scr ((x_law_script)), .fr .int ((x_law_k)), .fr .int (v28), .fr .int v26]) (((((((v28) % (2147483629 : Int)) * (48271 : Int)) + ((40692 : Int) * ((x_law_k)))) % (2147483629 : Int)) + (1 : Int))) (fun (v26 : Int) => (ok__law_box_19 ((v28)) (v26))) hs27.2.2 rfl (fun v26 hs25 => (dss_one (ds_retO (do_lst (t := .int) (dls_cons (de_ixL (t := .int) (default : Int) hs25.1 (de_frz (do_lst (t := .int) (dls_cons de_int (dls_cons (de_var 2 rfl) dls_nil (hs := by rfl)) (hs := by rfl)) (hz := by exact sz_of rfl))) (de_intB B.z_int (de_cmp (dc_ge (de_var 2 rfl) (de_pow (i := (10 : Int)) (j := (18 : Int)) ⟨by decide, by decide, by decide⟩ de_int de_int)) (h1 := by first | exact nobehind _ (by decide) (by decide) | rfl)) (hg := by rfl) (hs := by rfl) (hpl := by rfl)) (hs := by exact fun _ _ => rfl)) (dls_cons (de_var 3 rfl) dls_nil (hs := by rfl)) (hs := by rfl)) (hz := by exact sz_of rfl))))) rfl))) rfl))) rfl)) rets_rt h (hΓ := by rfl) (hl := by exact Nat.le_of_ble_eq_true rfl))
end Wk

set_option Elab.async false
set_option linter.all false
set_option maxRecDepth 10000
set_option maxHeartbeats 1000000
namespace Wk
open PySem Dn Mt
/-! the box -/
def Bx (b : List Int) : Prop := ∃ c s, b = [c, s] ∧ 0 ≤ c ∧ 0 < s ∧ s ≤ 2147483629
theorem sp_box {sc : List Int} {k : Int} (h0 : 0 ≤ k) (h1 : k ≤ 1000000) : ok__law_box sc k ∧ Bx (m__law_box sc k) := by
  have hm : ∀ cell : Int, ok__law_box_14 k cell ∧ Bx (m__law_box_14 k cell) := by
    intro cell
    have e1 : 0 ≤ cell % 2147483629 := Int.emod_nonneg _ (by decide)
    have e2 : cell % 2147483629 < 2147483629 := Int.emod_lt_of_pos _ (by decide)
    refine ⟨⟨Mt.mulOk (by omega) (by decide), Mt.mulOk (by decide) (by omega), ?_, trivial⟩, ?_⟩
    · unfold b2z
      by_cases h : (10 : Int) ^ Int.toNat 18 ≤ cell
      · simp only [h, decide_true, cond_true]; exact Mt.i21
      · simp only [h, decide_false, cond_false]; exact Mt.i20
    · refine ⟨_, _, rfl, ?_, ?_, ?_⟩
      · unfold b2z
        by_cases h : (10 : Int) ^ Int.toNat 18 ≤ cell
        · simp only [h, decide_true, cond_true]
          have : (0 : Int) ≤ cell := Int.le_trans (by decide) h
          exact this
        · simp only [h, decide_false, cond_false]; exact Int.le_refl _
      · have := Int.emod_nonneg ((cell % 2147483629) * 48271 + 40692 * k) (show (2147483629 : Int) ≠ 0 by decide)
        omega
      · have := Int.emod_lt_of_pos ((cell % 2147483629) * 48271 + 40692 * k) (show (0 : Int) < 2147483629 by decide)
        omega
  refine ⟨⟨Mt.mulOk (by decide) (by omega), ?_, ?_, (hm _).1⟩, (hm _).2⟩
  · intro h
    exact ⟨Mt.ixOk h0 (of_decide_eq_true h), trivial⟩
  · intro h
    refine ⟨fun h2 => ?_, trivial⟩
    have h3 := of_decide_eq_true h2
    have e1 : 0 ≤ k % (sc.length : Int) := Int.emod_nonneg _ (by omega)
    have e2 : k % (sc.length : Int) < sc.length := Int.emod_lt_of_pos _ h3
    have e3 : 0 ≤ (Dn.get 0 sc (k % (sc.length : Int))) % 2147483629 := Int.emod_nonneg _ (by decide)
    have e4 : (Dn.get 0 sc (k % (sc.length : Int))) % 2147483629 < 2147483629 := Int.emod_lt_of_pos _ (by decide)
    exact ⟨h3, Mt.ixOk e1 e2, Mt.mulOk (by omega) (by decide), trivial⟩
theorem sp_take {b : List Int} {n : Int} (hb : Bx b) (h0 : 0 < n) (h1 : n ≤ 1000000000) : ok__law_take b n ∧ Bx (m__law_take b n).2 ∧ 0 ≤ (m__law_take b n).1 ∧ (m__law_take b n).1 < n := by
  obtain ⟨c, s, rfl, hc, hs, ht⟩ := hb
  by_cases h : 0 < c
  · have hd : decide (0 < (Dn.get (default : Int) [c, s] 0)) = true := decide_eq_true h
    refine ⟨⟨Mt.i20, fun _ => ⟨Mt.i20, h0, Mt.i20, Mt.divOk h0 (by omega), Mt.i20, trivial⟩, (fun q => by rw [hd] at q; cases q), trivial⟩, ?_⟩
    unfold m__law_take
    rw [hd]
    exact ⟨⟨c / n, s, rfl, Int.ediv_nonneg hc (by omega), hs, ht⟩, Int.emod_nonneg _ (by omega), Int.emod_lt_of_pos _ h0⟩
  · have hd : decide (0 < (Dn.get (default : Int) [c, s] 0)) = false := decide_eq_false h
    have e1 : 0 ≤ (s * 69623) % 2147483647 := Int.emod_nonneg _ (by decide)
    have e2 : (s * 69623) % 2147483647 < 2147483647 := Int.emod_lt_of_pos _ (by decide)
    refine ⟨⟨Mt.i20, (fun q => by rw [hd] at q; cases q), fun _ => ⟨Mt.i21, Mt.mulOk (by show s.natAbs < _; omega) (by decide), Mt.mulOk (by show ((s * 69623) % 2147483647).natAbs < _; omega) (by decide), Mt.i21, Mt.mulOk (by show ((s * 69623) % 2147483647).natAbs < _; omega) (by decide), Mt.i21, h0, trivial⟩, trivial⟩, ?_⟩
    unfold m__law_take
    rw [hd]
    have e3 := Int.emod_nonneg ((s * 69623) % 2147483647 * 48271 + 30103) (show (2147483629 : Int) ≠ 0 by decide)
    have e4 := Int.emod_lt_of_pos ((s * 69623) % 2147483647 * 48271 + 30103) (show (0 : Int) < 2147483629 by decide)
    exact ⟨⟨c, _, rfl, hc, by omega, by omega⟩, Int.emod_nonneg _ (by omega), Int.emod_lt_of_pos _ h0⟩
theorem eraseIdx_len {α : Type} {xs : List α} {i : Nat} (h : i < xs.length) : (xs.eraseIdx i).length = xs.length - 1 := List.length_eraseIdx_of_lt h
/-- the colours are letters, each once, as many as asked for -/
theorem sp_colours {b : List Int} {n : Int} (hb : Bx b) (h0 : 0 ≤ n) (h1 : n ≤ 26) : ok__law_colours b n ∧ Bx (m__law_colours b n).2 ∧ ((m__law_colours b n).1.length : Int) = n ∧ ∀ c ∈ (m__law_colours b n).1, 97 ≤ c ∧ c ≤ 122 := by
  have hl : (rng 0 n).length = n.toNat := by rw [rng_len]; congr 1; omega
  have H := Mt.mapS_inv (P := fun (s9 : ((List Int) × (List (List Nat)))) (y6 : Int) => ((ok__law_take s9.1 ((s9.2).length : Int)) ∧ (let t10 := (m__law_take s9.1 ((s9.2).length : Int)); ((IxOk (s9.2).length t10.1) ∧ ((Sz (s9.2).length) ∧ True)))))
    (f := fun (s9 : ((List Int) × (List (List Nat)))) (y6 : Int) => (let t10 := (m__law_take s9.1 ((s9.2).length : Int)); ((Dn.get (default : List Nat) s9.2 t10.1), (t10.2, ((s9.2).eraseIdx (ix (s9.2).length t10.1))))))
    (fun i s => Bx s.1 ∧ s.2.length = 26 - i ∧ ∀ x ∈ s.2, ∃ c, x = [c] ∧ 97 ≤ c ∧ c ≤ 122) (fun x => ∃ c, x = [c] ∧ 97 ≤ c ∧ c ≤ 122)
    (rng 0 n) 0 (b, chars [97, 98, 99, 100, 101, 102, 103, 104, 105, 106, 107, 108, 109, 110, 111, 112, 113, 114, 115, 116, 117, 118, 119, 120, 121, 122])
    ⟨hb, by unfold chars; rfl, fun x hx => by
      obtain ⟨c, h, rfl⟩ := Mt.chars_mem hx
      exact ⟨c, rfl, Mt.letters c h⟩⟩
    (by
      intro s y i _ _ hi ⟨hb, hn, hs⟩
      have hi' : i < 26 := by omega
      obtain ⟨t1, t2, t3, t4⟩ := sp_take (b := s.1) (n := (s.2.length : Int)) hb (by omega) (by omega)
      have hix : IxOk s.2.length (m__law_take s.1 (s.2.length : Int)).1 := Mt.ixOk t3 t4
      refine ⟨⟨t1, hix, ?_, trivial⟩, ⟨t2, ?_, ?_⟩, hs _ (Mt.get_mem hix)⟩
      · unfold Sz; omega
      · show (s.2.eraseIdx _).length = _
        rw [eraseIdx_len (Mt.ix_lt hix)]; omega
      · exact fun x hx => hs x (List.mem_of_mem_eraseIdx hx))
  obtain ⟨g1, ⟨g2, _, _⟩, g3, g4⟩ := H
  rw [hl] at g4
  have p := List.mergeSort_perm (mapS (fun (s9 : ((List Int) × (List (List Nat)))) (y6 : Int) => (let t10 := (m__law_take s9.1 ((s9.2).length : Int)); ((Dn.get (default : List Nat) s9.2 t10.1), (t10.2, ((s9.2).eraseIdx (ix (s9.2).length t10.1)))))) (b, chars [97, 98, 99, 100, 101, 102, 103, 104, 105, 106, 107, 108, 109, 110, 111, 112, 113, 114, 115, 116, 117, 118, 119, 120, 121, 122]) (rng 0 n)).1 (leT .str)
  have hone : ∀ xs : List (List Nat), (∀ x ∈ xs, ∃ c, x = [c] ∧ 97 ≤ c ∧ c ≤ 122) → xs.flatten.length = xs.length ∧ ∀ c ∈ xs.flatten, 97 ≤ c ∧ c ≤ 122 := by
    intro xs
    induction xs with
    | nil => intro _; exact ⟨rfl, fun c hc => by cases hc⟩
    | cons x xs ih =>
      intro h
      obtain ⟨c, rfl, h1, h2⟩ := h x (List.mem_cons_self ..)
      obtain ⟨i1, i2⟩ := ih fun y hy => h y (List.mem_cons_of_mem _ hy)
      refine ⟨by simp [i1, Nat.add_comm], fun d hd => ?_⟩
      simp only [List.flatten_cons, List.cons_append, List.nil_append, List.mem_cons] at hd
      rcases hd with rfl | hd
      · exact ⟨h1, h2⟩
      · exact i2 d hd
  have hm : ∀ x ∈ sortT .str _, ∃ c, x = [c] ∧ 97 ≤ c ∧ c ≤ 122 := fun x hx => g3 x (p.mem_iff.mp hx)
  have hs := hone _ hm
  have hlen : (sortT .str _).length = _ := p.length_eq
  refine ⟨⟨by decide, ⟨by omega, by omega⟩, ?_, g1, ?_, ?_, trivial⟩, g2, ?_, ?_⟩
  · rw [hl]; unfold Sz; omega
  · show Sz (List.length _)
    rw [g4]; unfold Sz; omega
  · refine Mt.szJ_nil (m := 1) (fun x hx => ?_) ?_
    · obtain ⟨c, rfl, _⟩ := hm x hx; exact Nat.le_refl _
    · rw [hlen, g4]; omega
  · show ((joinS [] (sortT .str _)).length : Int) = n
    rw [Mt.joinS_nil, hs.1, hlen, g4]; omega
  · show ∀ c ∈ joinS [] (sortT .str _), _
    rw [Mt.joinS_nil]
    exact hs.2
/-- a reader: as many rows as said, in each a mark and one goal for each colour -/
def Rd' (k : Nat) (rows : List (Bool × List Int)) : Prop := 0 < rows.length ∧ rows.length ≤ 1000 ∧ ∀ r ∈ rows, r.2.length = k ∧ ∀ g ∈ r.2, 0 ≤ g ∧ g < rows.length
theorem sp_reader {b : List Int} {cs : List Nat} {n : Int} (hb : Bx b) (hc : cs.length ≤ 1000) (h0 : 0 < n) (h1 : n ≤ 1000) : ok__law_reader b cs n ∧ Bx (m__law_reader b cs n).2 ∧ Rd' cs.length (m__law_reader b cs n).1 := by
  obtain ⟨t1, t2, t3, t4⟩ := sp_take (b := b) (n := n) hb h0 (by omega)
  obtain ⟨m, hm⟩ : ∃ m : Int, 1 + (m__law_take b n).1 = m := ⟨_, rfl⟩
  have hm1 : 0 < m ∧ m ≤ 1000 := by omega
  have hl : (rng 0 m).length = m.toNat := by rw [rng_len]; congr 1; omega
  have H := Mt.fold_inv (P := ok__law_reader_L15 cs m) (f := m__law_reader_L15 cs m)
    (fun i s => Bx s.1 ∧ s.2.length = i ∧ ∀ r ∈ s.2, r.2.length = cs.length ∧ ∀ g ∈ r.2, 0 ≤ g ∧ g < m) (rng 0 m) 0 ((m__law_take b n).2, []) ⟨t2, rfl, fun r hr => by cases hr⟩
    (by
      rintro ⟨s1, s2⟩ y i _ _ hi ⟨hb, hn, hs⟩
      obtain ⟨u1, u2, u3, u4⟩ := sp_take (b := s1) (n := 2) hb (by decide) (by decide)
      have hg : ∃ v : Int, Dn.get (default : Int) [2, 4] (m__law_take s1 2).1 = v ∧ 0 < v ∧ v ≤ 4 := by
        have : (m__law_take s1 2).1 = 0 ∨ (m__law_take s1 2).1 = 1 := by omega
        rcases this with e | e <;> rw [e] <;> exact ⟨_, rfl, by decide, by decide⟩
      have hix : IxOk 2 (m__law_take s1 2).1 := Mt.ixOk u3 u4
      obtain ⟨v, ev, v0, v1⟩ := hg
      obtain ⟨w1, w2, w3, w4⟩ := sp_take (b := (m__law_take s1 2).2) (n := v) u2 v0 (by omega)
      have K := Mt.mapS_inv (P := fun (s36 : (List Int)) (y33 : (List Nat)) => ((ok__law_take s36 m) ∧ True)) (f := fun (s36 : (List Int)) (y33 : (List Nat)) => (let t37 := (m__law_take s36 m); (t37.1, t37.2)))
        (fun _ s => Bx s) (fun g => 0 ≤ g ∧ g < m) (chars cs) 0 (m__law_take (m__law_take s1 2).2 v).2 w2
        (by
          intro s y i _ _ _ hb
          obtain ⟨x1, x2, x3, x4⟩ := sp_take (b := s) (n := m) hb hm1.1 (by omega)
          exact ⟨⟨x1, trivial⟩, x2, x3, x4⟩)
      obtain ⟨k1, k2, k3, k4⟩ := K
      have hcl : (chars cs).length = cs.length := by unfold chars; rw [List.length_map]
      refine ⟨⟨u1, hix, ?_, ?_⟩, ?_⟩
      · show ok__law_take _ (Dn.get (default : Int) [2, 4] (m__law_take s1 2).1)
        rw [ev]; exact w1
      · show ok__law_reader_24 (m__law_take (m__law_take s1 2).2 (Dn.get (default : Int) [2, 4] (m__law_take s1 2).1)).2 cs m s2 _
        rw [ev]
        refine ⟨by rw [hcl]; unfold Sz; omega, k1, ?_, trivial⟩
        have : s2.length = i := hn
        unfold Sz
        omega
      · have e : m__law_reader_L15 cs m (s1, s2) y = m__law_reader_24 (m__law_take (m__law_take s1 2).2 (Dn.get (default : Int) [2, 4] (m__law_take s1 2).1)).2 cs m s2 (decide ((m__law_take (m__law_take s1 2).2 (Dn.get (default : Int) [2, 4] (m__law_take s1 2).1)).1 = 0)) := rfl
        rw [e, ev]
        refine ⟨k2, ?_, ?_⟩
        · show (s2 ++ [_]).length = i + 1
          rw [List.length_append]; simpa using hn
        · intro r hr
          rcases List.mem_append.mp hr with hr | hr
          · exact hs r hr
          · rw [List.mem_singleton] at hr
            subst hr
            exact ⟨k4.trans hcl, k3⟩)
  obtain ⟨g1, g2, g3, g4⟩ := H
  rw [hl] at g3
  have hlen : ((List.foldl (m__law_reader_L15 cs m) ((m__law_take b n).2, []) (rng 0 m)).2).length = m.toNat := by omega
  refine ⟨⟨t1, ?_⟩, ?_⟩
  · show ok__law_reader_2 _ _ (1 + _)
    rw [hm]
    exact ⟨⟨by omega, by omega⟩, g1, trivial⟩
  · show Bx (m__law_reader_2 _ _ (1 + _)).2 ∧ Rd' _ (m__law_reader_2 _ _ (1 + _)).1
    rw [hm]
    refine ⟨g2, ?_⟩
    show Rd' _ (List.foldl (m__law_reader_L15 cs m) ((m__law_take b n).2, []) (rng 0 m)).2
    refine ⟨by omega, by omega, fun r hr => ⟨(g4 r hr).1, fun g hg => ?_⟩⟩
    have := (g4 r hr).2 g hg
    omega
theorem sfind_at {cs : List Nat} {i : Nat} (h : sfind cs [c] = some i) : cs[i]? = some c := by
  have := List.find?_some h
  simp only [beq_iff_eq, List.length_cons, List.length_nil] at this
  cases e : cs.drop i with
  | nil => rw [e] at this; cases this
  | cons d r =>
    rw [e] at this
    simp at this
    subst this
    have : (cs.drop i)[0]? = some d := by rw [e]; rfl
    rw [List.getElem?_drop] at this
    simpa using this
/-- a colour is found at a place of its own -/
theorem sp_find {cs : List Nat} {c : Nat} (h : c ∈ cs) : (sfind cs [c]).isSome = true ∧ 0 ≤ findZ cs [c] ∧ findZ cs [c] < cs.length := by
  have hs : (sfind cs [c]).isSome = true := by
    obtain ⟨i, h1, h2⟩ := List.getElem_of_mem h
    unfold sfind
    rw [List.find?_isSome]
    refine ⟨i, List.mem_range.mpr (by omega), ?_⟩
    rw [List.drop_eq_getElem_cons h1, h2]
    simp
  obtain ⟨i, hi⟩ := Option.isSome_iff_exists.mp hs
  have hl := sfind_at hi
  have hl2 : i < cs.length := by
    rcases Nat.lt_or_ge i cs.length with q | q
    · exact q
    · rw [List.getElem?_eq_none q] at hl; cases hl
  refine ⟨hs, ?_⟩
  unfold findZ
  rw [hi]
  show 0 ≤ (i : Int) ∧ (i : Int) < _
  omega
section
variable {α : Type} {P : α → Prop}
theorem tk {b : List Int} {n : Int} {f : Int × List Int → Rn α} (hb : Bx b) (h0 : 0 < n) (h1 : n ≤ 1000000000) (k : ∀ t b', Bx b' → 0 ≤ t → t < n → Sp (f (t, b')) P) : Sp (Rn.bind (r__law_take b n) f) P :=
  Sp.bind (P := fun r => Bx r.2 ∧ 0 ≤ r.1 ∧ r.1 < n) (Sp.of (e__law_take b n) (sp_take hb h0 h1)) fun ⟨t, b'⟩ ⟨p, q, r⟩ => k t b' p q r
theorem bx {sc : List Int} {i : Int} {f : List Int → Rn α} (h0 : 0 ≤ i) (h1 : i ≤ 1000000) (k : ∀ b', Bx b' → Sp (f b') P) : Sp (Rn.bind (r__law_box sc i) f) P :=
  Sp.bind (P := Bx) (Sp.of (e__law_box sc i) (sp_box h0 h1)) k
theorem col {b : List Int} {n : Int} {f : List Nat × List Int → Rn α} (hb : Bx b) (h0 : 0 ≤ n) (h1 : n ≤ 26) (k : ∀ cs b', Bx b' → (cs.length : Int) = n → (∀ c ∈ cs, 97 ≤ c ∧ c ≤ 122) → Sp (f (cs, b')) P) : Sp (Rn.bind (r__law_colours b n) f) P :=
  Sp.bind (P := fun r => Bx r.2 ∧ (r.1.length : Int) = n ∧ ∀ c ∈ r.1, 97 ≤ c ∧ c ≤ 122) (Sp.of (e__law_colours b n) (sp_colours hb h0 h1)) fun ⟨t, b'⟩ ⟨p, q, r⟩ => k t b' p q r
end
theorem rngOk {n : Int} (h0 : -1000000 ≤ n) (h1 : n ≤ 1000000) : RngOk n := ⟨by omega, by omega⟩
theorem sz {n : Nat} (h : n ≤ 100000) : Sz n := h
theorem rl {n : Int} : (rng 0 n).length = n.toNat := by rw [rng_len]; congr 1; omega
theorem gm {α : Type} {d : α} {xs : List α} {i : Int} (h0 : 0 ≤ i) (h1 : i < xs.length) : Dn.get d xs i ∈ xs := Mt.get_mem (Mt.ixOk h0 h1)
theorem cut_set {α : Type} {xs : List α} {k : Int} (h0 : 0 ≤ k) (h1 : k < xs.length) : (cut xs none (some k)).length + 1 + (cut xs (some (k + 1)) none).length ≤ xs.length := by
  unfold cut HT.sIx
  simp only [List.length_take, List.length_drop]
  repeat' split
  all_goals omega
theorem take_snoc {α : Type} {l : List α} {i : Nat} {y : α} (h : l[i]? = some y) : l.take (i + 1) = l.take i ++ [y] := by rw [List.take_add_one, h]; rfl
/-! the colours are unlike -/
theorem erase_perm {α : Type} {xs : List α} {i : Nat} {x : α} (h : xs[i]? = some x) : xs.Perm (x :: xs.eraseIdx i) := by
  obtain ⟨h1, rfl⟩ := List.getElem?_eq_some_iff.mp h
  have e : xs.take i ++ xs[i] :: xs.drop (i + 1) = xs := by rw [← List.drop_eq_getElem_cons h1, List.take_append_drop]
  have p := List.perm_middle (l₁ := xs.take i) (a := xs[i]) (l₂ := xs.drop (i + 1))
  rw [e] at p
  rw [List.eraseIdx_eq_take_drop_succ]; exact p
theorem get_some {α : Type} {d : α} {xs : List α} {i : Int} (h0 : 0 ≤ i) (h1 : i < xs.length) : xs[i.toNat]? = some (Dn.get d xs i) := by
  have e : ix xs.length i = i.toNat := by unfold ix; rw [if_pos h0]
  unfold Dn.get
  rw [e, List.getElem?_eq_getElem (by omega)]; rfl
theorem col_pick : ∀ (ys : List Int) (s : List Int × List (List Nat)), Bx s.1 → ys.length ≤ s.2.length → s.2.length ≤ 26 → s.2.Nodup →
    (mapS (fun (s9 : ((List Int) × (List (List Nat)))) (y6 : Int) => (let t10 := (m__law_take s9.1 ((s9.2).length : Int)); ((Dn.get (default : (List Nat)) s9.2 t10.1), (t10.2, ((s9.2).eraseIdx (ix (s9.2).length t10.1)))))) s ys).1.Nodup ∧
    ∀ x ∈ (mapS (fun (s9 : ((List Int) × (List (List Nat)))) (y6 : Int) => (let t10 := (m__law_take s9.1 ((s9.2).length : Int)); ((Dn.get (default : (List Nat)) s9.2 t10.1), (t10.2, ((s9.2).eraseIdx (ix (s9.2).length t10.1)))))) s ys).1, x ∈ s.2
  | [], s, _, _, _, _ => ⟨List.nodup_nil, fun x h => by cases h⟩
  | y :: ys, s, hb, h1, h2, nd => by
    rw [List.length_cons] at h1
    obtain ⟨t1, t2, t3, t4⟩ := sp_take (b := s.1) (n := (s.2.length : Int)) hb (by omega) (by omega)
    have hs := get_some (d := (default : List Nat)) (xs := s.2) t3 t4
    have e : ix s.2.length (m__law_take s.1 (s.2.length : Int)).1 = (m__law_take s.1 (s.2.length : Int)).1.toNat := by unfold ix; rw [if_pos t3]
    have p := erase_perm hs
    have n := List.nodup_cons.mp (p.nodup_iff.mp nd)
    have hl := p.length_eq
    rw [List.length_cons] at hl
    obtain ⟨a, b⟩ := col_pick ys ((m__law_take s.1 (s.2.length : Int)).2, s.2.eraseIdx (ix s.2.length (m__law_take s.1 (s.2.length : Int)).1)) t2 (by rw [e]; show ys.length ≤ (s.2.eraseIdx _).length; omega) (by rw [e]; show (s.2.eraseIdx _).length ≤ _; omega) (by rw [e]; exact n.2)
    unfold mapS
    refine ⟨List.nodup_cons.mpr ⟨fun c => ?_, a⟩, fun x hx => ?_⟩
    · have c := b _ c
      rw [e] at c
      exact n.1 c
    · rcases List.mem_cons.mp hx with rfl | hx
      · exact List.mem_of_getElem? hs
      · have c := b _ hx
        rw [e] at c
        exact p.mem_iff.mpr (List.mem_cons_of_mem _ c)
theorem flat_nodup : ∀ {xs : List (List Nat)}, (∀ x ∈ xs, ∃ c, x = [c]) → xs.Nodup → xs.flatten.Nodup
  | [], _, _ => List.nodup_nil
  | x :: xs, h, nd => by
    obtain ⟨c, rfl⟩ := h x (List.mem_cons_self ..)
    obtain ⟨n1, n2⟩ := List.nodup_cons.mp nd
    have ih := flat_nodup (fun y hy => h y (List.mem_cons_of_mem _ hy)) n2
    show (c :: xs.flatten).Nodup
    refine List.nodup_cons.mpr ⟨fun d => ?_, ih⟩
    obtain ⟨y, hy, hc⟩ := List.mem_flatten.mp d
    obtain ⟨e, rfl⟩ := h y (List.mem_cons_of_mem _ hy)
    rw [List.mem_singleton.mp hc] at n1
    exact n1 hy
theorem ab_nodup : (chars [97, 98, 99, 100, 101, 102, 103, 104, 105, 106, 107, 108, 109, 110, 111, 112, 113, 114, 115, 116, 117, 118, 119, 120, 121, 122]).Nodup := by unfold chars; decide
theorem col_nodup {b : List Int} {n : Int} (hb : Bx b) (h0 : 0 ≤ n) (h1 : n ≤ 26) : (m__law_colours b n).1.Nodup := by
  have hl : (rng 0 n).length = n.toNat := by rw [rng_len]; congr 1; omega
  obtain ⟨a, c⟩ := col_pick (rng 0 n) (b, chars [97, 98, 99, 100, 101, 102, 103, 104, 105, 106, 107, 108, 109, 110, 111, 112, 113, 114, 115, 116, 117, 118, 119, 120, 121, 122]) hb (by rw [hl]; unfold chars; show _ ≤ 26; omega) (by unfold chars; exact Nat.le_refl 26) ab_nodup
  have p := List.mergeSort_perm (mapS (fun (s9 : ((List Int) × (List (List Nat)))) (y6 : Int) => (let t10 := (m__law_take s9.1 ((s9.2).length : Int)); ((Dn.get (default : (List Nat)) s9.2 t10.1), (t10.2, ((s9.2).eraseIdx (ix (s9.2).length t10.1)))))) (b, chars [97, 98, 99, 100, 101, 102, 103, 104, 105, 106, 107, 108, 109, 110, 111, 112, 113, 114, 115, 116, 117, 118, 119, 120, 121, 122]) (rng 0 n)).1 (leT .str)
  show (joinS [] (sortT .str _)).Nodup
  rw [Mt.joinS_nil]
  refine flat_nodup (fun x hx => ?_) (p.nodup_iff.mpr a)
  obtain ⟨d, _, rfl⟩ := Mt.chars_mem (c x (p.mem_iff.mp hx))
  exact ⟨d, rfl⟩
section
variable {α : Type} {P : α → Prop}
theorem colN {b : List Int} {n : Int} {f : List Nat × List Int → Rn α} (hb : Bx b) (h0 : 0 ≤ n) (h1 : n ≤ 26) (k : ∀ cs b', Bx b' → (cs.length : Int) = n → (∀ c ∈ cs, 97 ≤ c ∧ c ≤ 122) → cs.Nodup → Sp (f (cs, b')) P) : Sp (Rn.bind (r__law_colours b n) f) P := by
  obtain ⟨c1, c2, c3, c4⟩ := sp_colours hb h0 h1
  refine Sp.bind (P := fun r => Bx r.2 ∧ (r.1.length : Int) = n ∧ (∀ c ∈ r.1, 97 ≤ c ∧ c ≤ 122) ∧ r.1.Nodup) (Sp.of (e__law_colours b n) ⟨c1, c2, c3, c4, col_nodup hb h0 h1⟩) ?_
  rintro ⟨cs, b'⟩ ⟨p, q, r, s⟩
  exact k cs b' p q r s
theorem rdr {b : List Int} {cs : List Nat} {n : Int} {f : List (Bool × List Int) × List Int → Rn α} (hb : Bx b) (hc : cs.length ≤ 1000) (h0 : 0 < n) (h1 : n ≤ 1000) (k : ∀ rows b', Bx b' → Rd' cs.length rows → Sp (f (rows, b')) P) : Sp (Rn.bind (r__law_reader b cs n) f) P :=
  Sp.bind (P := fun r => Bx r.2 ∧ Rd' cs.length r.1) (Sp.of (e__law_reader b cs n) (sp_reader hb hc h0 h1)) fun ⟨rows, b'⟩ ⟨p, q⟩ => k rows b' p q
end
theorem chars_nil : chars [] = [] := by unfold chars; rfl
theorem chars_snoc {w : List Nat} {c : Nat} : chars (w ++ [c]) = chars w ++ [[c]] := by unfold chars; simp
theorem charsL {x : List Nat} : (chars x).length = x.length := by simp [chars]
theorem chars_at {x : List Nat} {i : Nat} {c : Nat} (h : x[i]? = some c) : (chars x)[i]? = some [c] := by unfold chars; rw [List.getElem?_map, h]; rfl
/-- all words of a length, in order -/
def Vw (cs : List Nat) : Nat → List (List Nat)
  | 0 => [[]]
  | k + 1 => (Vw cs k).flatMap fun w => (chars cs).map fun c => w ++ c
def Aw (cs : List Nat) : Nat → List (List Nat)
  | 0 => [[]]
  | k + 1 => Aw cs k ++ Vw cs (k + 1)
noncomputable def stO (cs : List Nat) (rows : List (Bool × List Int)) (w : List Nat) : Int := (chars w).foldl (m__law_takes_L1 cs rows) 0
noncomputable def tkn (cs : List Nat) (rows : List (Bool × List Int)) (w : List Nat) : Bool := (Dn.get (default : (Bool × (List Int))) rows (stO cs rows w)).1
noncomputable def Fw (cs : List Nat) (rows : List (Bool × List Int)) : Nat → List (List Nat)
  | 0 => []
  | k + 1 => Fw cs rows k ++ (Vw cs k).filter (tkn cs rows)
section
variable {cs : List Nat} {rows : List (Bool × List Int)}
theorem fw_aw : ∀ n, Fw cs rows (n + 1) = (Aw cs n).filter (tkn cs rows)
  | 0 => rfl
  | n + 1 => by
    show Fw cs rows (n + 1) ++ (Vw cs (n + 1)).filter (tkn cs rows) = (Aw cs n ++ Vw cs (n + 1)).filter (tkn cs rows)
    rw [fw_aw n, List.filter_append]
theorem vw_mem : ∀ {k : Nat} {w : List Nat}, w ∈ Vw cs k → w.length = k ∧ ∀ c ∈ w, c ∈ cs
  | 0, w, h => by rw [List.mem_singleton.mp h]; exact ⟨rfl, fun c h => by cases h⟩
  | k + 1, w, h => by
    obtain ⟨v, hv, h⟩ := List.mem_flatMap.mp h
    obtain ⟨x, hx, rfl⟩ := List.mem_map.mp h
    obtain ⟨c, hc, rfl⟩ := Mt.chars_mem hx
    obtain ⟨i1, i2⟩ := vw_mem hv
    refine ⟨by rw [List.length_append, List.length_singleton, i1], fun d hd => ?_⟩
    rcases List.mem_append.mp hd with hd | hd
    · exact i2 d hd
    · rw [List.mem_singleton.mp hd]; exact hc
theorem aw_mem : ∀ {k : Nat} {w : List Nat}, w ∈ Aw cs k → w.length ≤ k ∧ ∀ c ∈ w, c ∈ cs
  | 0, w, h => by rw [List.mem_singleton.mp h]; exact ⟨Nat.le_refl _, fun c h => by cases h⟩
  | k + 1, w, h => by
    rcases List.mem_append.mp h with h | h
    · exact ⟨Nat.le_succ_of_le (aw_mem h).1, (aw_mem h).2⟩
    · exact ⟨Nat.le_of_eq (vw_mem h).1, (vw_mem h).2⟩
theorem flat_len {α β : Type} {f : α → List β} {m : Nat} : ∀ {l : List α}, (∀ x ∈ l, (f x).length ≤ m) → (l.flatMap f).length ≤ l.length * m
  | [], _ => Nat.zero_le _
  | x :: l, h => by
    have ih := flat_len (l := l) fun y hy => h y (List.mem_cons_of_mem _ hy)
    have hx := h x (List.mem_cons_self ..)
    rw [List.flatMap_cons, List.length_append, List.length_cons, Nat.add_mul]; omega
theorem vw_len (h3 : cs.length ≤ 3) : ∀ k, (Vw cs k).length ≤ 3 ^ k
  | 0 => Nat.le_refl _
  | k + 1 => by
    have ih := vw_len h3 k
    have := flat_len (l := Vw cs k) (f := fun w => (chars cs).map fun c => w ++ c) (m := 3) fun w _ => by rw [List.length_map, charsL]; exact h3
    show ((Vw cs k).flatMap _).length ≤ 3 ^ k * 3
    omega
theorem pow3 {k : Nat} (h : k ≤ 7) : 3 ^ k ≤ 2187 := Nat.pow_le_pow_right (n := 3) (by decide) h
theorem vw_le (h3 : cs.length ≤ 3) {k : Nat} (h : k ≤ 7) : (Vw cs k).length ≤ 2187 := Nat.le_trans (vw_len h3 k) (pow3 h)
theorem aw_le (h3 : cs.length ≤ 3) : ∀ {k : Nat}, k ≤ 7 → (Aw cs k).length ≤ 1 + 2187 * k
  | 0, _ => Nat.le_refl _
  | k + 1, h => by
    have ih := aw_le h3 (k := k) (by omega)
    have := vw_le h3 (k := k + 1) h
    show (Aw cs k ++ Vw cs (k + 1)).length ≤ _
    rw [List.length_append]; omega
theorem fw_le (h3 : cs.length ≤ 3) : ∀ {k : Nat}, k ≤ 7 → (Fw cs rows k).length ≤ 2187 * k
  | 0, _ => Nat.le_refl _
  | k + 1, h => by
    have ih := fw_le h3 (k := k) (by omega)
    have := vw_le h3 (k := k) (by omega)
    have f := List.length_filter_le (tkn cs rows) (Vw cs k)
    show (Fw cs rows k ++ (Vw cs k).filter (tkn cs rows)).length ≤ _
    rw [List.length_append]; omega
theorem stO_snoc {w : List Nat} {c : Nat} : stO cs rows (w ++ [c]) = m__law_takes_L1 cs rows (stO cs rows w) [c] := by
  unfold stO; rw [chars_snoc, List.foldl_append]; rfl
theorem find_at (nd : cs.Nodup) {j : Nat} {c : Nat} (h : cs[j]? = some c) : findZ cs [c] = j := by
  have hc := List.mem_of_getElem? h
  obtain ⟨hs, _⟩ := sp_find hc
  obtain ⟨i, hi⟩ := Option.isSome_iff_exists.mp hs
  have hl := sfind_at hi
  have il := (List.getElem?_eq_some_iff.mp hl).1
  have : i = j := (List.getElem?_inj il nd).mp (by rw [hl, h])
  unfold findZ
  rw [hi, this]
theorem one_step (hr : Rd' cs.length rows) {s : Int} {c : Nat} (hc : c ∈ cs) (h0 : 0 ≤ s) (h1 : s < rows.length) : IxOk rows.length s ∧ IxOk (Dn.get (default : Bool × List Int) rows s).2.length (findZ cs [c]) ∧ 0 ≤ m__law_takes_L1 cs rows s [c] ∧ m__law_takes_L1 cs rows s [c] < rows.length := by
  have a := Mt.ixOk (n := rows.length) h0 h1
  obtain ⟨e1, e2⟩ := hr.2.2 _ (Mt.get_mem (d := default) a)
  obtain ⟨f1, f2, f3⟩ := sp_find hc
  have b : IxOk (Dn.get (default : Bool × List Int) rows s).2.length (findZ cs [c]) := Mt.ixOk f2 (by omega)
  exact ⟨a, b, e2 _ (Mt.get_mem b)⟩
theorem sp_takes (hr : Rd' cs.length rows) {w : List Nat} (hw : ∀ c ∈ w, c ∈ cs) : Sp (r__law_takes cs rows w) fun r => r = tkn cs rows w := by
  refine Sp.fold (fun i s => s = ((chars w).take i).foldl (m__law_takes_L1 cs rows) 0 ∧ 0 ≤ s ∧ s < rows.length) ⟨rfl, Int.le_refl _, by have := hr.1; omega⟩ (fun s y i hy hi hiy hs => ?_) fun s hs => ?_
  · obtain ⟨e, s0, s1⟩ := hs
    obtain ⟨c, hc, rfl⟩ := Mt.chars_mem hy
    obtain ⟨a, b, d, f⟩ := one_step hr (hw c hc) s0 s1
    refine Sp.chk a (Sp.chk b (Sp.ret ⟨?_, d, f⟩))
    rw [take_snoc hiy, List.foldl_append, ← e]; rfl
  · obtain ⟨e, s0, s1⟩ := hs
    rw [List.take_length] at e
    refine Sp.chk (Mt.ixOk s0 s1) (Sp.ret ?_)
    rw [e]; rfl
theorem stO_in (hr : Rd' cs.length rows) {w : List Nat} (hw : ∀ c ∈ w, c ∈ cs) : 0 ≤ stO cs rows w ∧ stO cs rows w < rows.length := by
  have key : ∀ (l : List (List Nat)) (s : Int), (∀ y ∈ l, y ∈ chars w) → 0 ≤ s ∧ s < rows.length → 0 ≤ l.foldl (m__law_takes_L1 cs rows) s ∧ l.foldl (m__law_takes_L1 cs rows) s < rows.length := by
    intro l
    induction l with
    | nil => intro s _ h; exact h
    | cons y l ih =>
      intro s hl h
      obtain ⟨c, hc, rfl⟩ := Mt.chars_mem (hl y (List.mem_cons_self ..))
      obtain ⟨_, _, d⟩ := one_step hr (hw c hc) h.1 h.2
      exact ih _ (fun z hz => hl z (List.mem_cons_of_mem _ hz)) d
  exact key _ 0 (fun _ h => h) ⟨Int.le_refl _, by have := hr.1; omega⟩
/-- a word's row as the program keeps it -/
noncomputable def pr (cs : List Nat) (rows : List (Bool × List Int)) (w : List Nat) : List Nat × Int := (w, stO cs rows w)
theorem zip_step (nd : cs.Nodup) (hr : Rd' cs.length rows) {w : List Nat} (hw : ∀ c ∈ w, c ∈ cs) :
    (List.map (fun (y51 : ((List Nat) × Int)) => ((w ++ (y51.1)), (y51.2))) (List.zip (chars cs) ((Dn.get (default : (Bool × (List Int))) rows (stO cs rows w)).2))) = ((chars cs).map fun c => w ++ c).map (pr cs rows) := by
  obtain ⟨s0, s1⟩ := stO_in hr hw
  have a := Mt.ixOk (n := rows.length) s0 s1
  obtain ⟨e1, e2⟩ := hr.2.2 _ (Mt.get_mem (d := default) a)
  refine List.ext_getElem? fun j => ?_
  rw [List.map_map, List.getElem?_map, List.getElem?_map, List.zip, List.getElem?_zipWith]
  rcases Nat.lt_or_ge j cs.length with hj | hj
  · have hc : cs[j]? = some cs[j] := List.getElem?_eq_getElem hj
    have hj2 : j < (Dn.get (default : (Bool × (List Int))) rows (stO cs rows w)).2.length := by omega
    rw [chars_at hc, List.getElem?_eq_getElem hj2]
    show some (w ++ [cs[j]], _) = some (pr cs rows (w ++ [cs[j]]))
    unfold pr
    rw [stO_snoc]
    have : m__law_takes_L1 cs rows (stO cs rows w) [cs[j]] = (Dn.get (default : (Bool × (List Int))) rows (stO cs rows w)).2[j] := by
      show Dn.get (default : Int) (Dn.get (default : (Bool × (List Int))) rows (stO cs rows w)).2 (findZ cs [cs[j]]) = _
      rw [find_at nd hc]
      have g := get_some (d := (default : Int)) (xs := (Dn.get (default : (Bool × (List Int))) rows (stO cs rows w)).2) (i := (j : Int)) (by omega) (by omega)
      rw [show ((j : Int)).toNat = j by omega, List.getElem?_eq_getElem hj2] at g
      exact (Option.some.inj g).symm
    rw [this]
  · rw [List.getElem?_eq_none (by rw [charsL]; exact hj)]
    rfl
theorem sp_words (h3 : cs.length ≤ 3) {n : Int} (n0 : 0 ≤ n) (n1 : n ≤ 6) : Sp (r__law_words cs n) fun r => r = Aw cs n.toNat := by
  refine Sp.chk (rngOk (by omega) (by omega)) (Sp.fold (fun k s => s.2 = Vw cs k ∧ s.1 = Aw cs k) ⟨rfl, rfl⟩ ?_ ?_)
  · rintro ⟨found, row⟩ y k hy hk _ ⟨s1, s2⟩
    have s1 : row = Vw cs k := s1
    have s2 : found = Aw cs k := s2
    have hk : k < (rng 0 n).length := hk
    rw [rl] at hk
    have v1 := vw_le h3 (k := k) (by omega)
    have v2 := vw_le h3 (k := k + 1) (by omega)
    have a1 := aw_le h3 (k := k) (by omega)
    refine Sp.fold (fun i m => m = ((Vw cs k).take i).flatMap fun w => (chars cs).map fun c => w ++ c) rfl ?_ fun m hm => ?_
    · rintro m w i hw hi hiw hm
      have hiw : row[i]? = some w := hiw
      rw [s1] at hiw
      have wv := vw_mem (List.mem_of_getElem? hiw)
      have il : i < (Vw cs k).length := (List.getElem?_eq_some_iff.mp hiw).1
      have ml : m.length ≤ i * 3 := by
        rw [hm]
        have := flat_len (l := (Vw cs k).take i) (f := fun w => (chars cs).map fun c => w ++ c) (m := 3) fun w _ => by rw [List.length_map, charsL]; exact h3
        rw [List.length_take] at this
        have : min i (Vw cs k).length * 3 ≤ i * 3 := Nat.mul_le_mul_right _ (Nat.min_le_left _ _)
        omega
      refine Sp.chk (sz (by rw [charsL]; omega)) (Sp.chk (fun z hz => ⟨sz ?_, trivial⟩) (Sp.chk (sz ?_) (Sp.ret ?_)))
      · obtain ⟨c, hc, e⟩ := Mt.chars_mem hz
        rw [e, wv.1, List.length_singleton]; omega
      · rw [List.length_map, charsL]; omega
      · rw [take_snoc hiw, List.flatMap_append, ← hm]
        simp
    · have hm : m = ((Vw cs k).take row.length).flatMap fun w => (chars cs).map fun c => w ++ c := hm
      rw [s1, List.take_length] at hm
      have hm : m = Vw cs (k + 1) := hm
      refine Sp.chk (sz (by show found.length + m.length ≤ _; rw [hm, s2]; omega)) (Sp.ret ⟨hm, ?_⟩)
      show found ++ m = Aw cs (k + 1)
      rw [s2, hm]; rfl
  · rintro ⟨found, row⟩ ⟨_, s2⟩
    rw [rl] at s2
    exact Sp.ret s2
end
/-! how many words a reader takes -/
def gs (rows : List (Bool × List Int)) (r : Int) : List Int := (Dn.get (default : (Bool × List Int)) rows r).2
def mk1 (rows : List (Bool × List Int)) (r : Int) : Bool := (Dn.get (default : (Bool × List Int)) rows r).1
def cnt (rows : List (Bool × List Int)) : Nat → Int → Int
  | 0, r => b2z (mk1 rows r)
  | k + 1, r => ((gs rows r).map (cnt rows k)).sum
theorem b2z_t : b2z true = 1 := rfl
theorem b2z_f : b2z false = 0 := rfl
theorem rng_in {lo hi y : Int} (h : lo ≤ y ∧ y < hi) : y ∈ rng lo hi := by unfold rng; exact List.mem_map.mpr ⟨(y - lo).toNat, List.mem_range.mpr (by omega), by omega⟩
/-- weights -/
def wt (f : Int → Int) (d : List (Int × Int)) : Int := (d.map fun p => p.2 * f p.1).sum
theorem wt_app (f : Int → Int) (d e : List (Int × Int)) : wt f (d ++ e) = wt f d + wt f e := by unfold wt; rw [List.map_append, List.sum_append]
theorem wt_cons (f : Int → Int) (p : Int × Int) (d : List (Int × Int)) : wt f (p :: d) = p.2 * f p.1 + wt f d := by unfold wt; rw [List.map_cons, List.sum_cons]
def Nk (d : List (Int × Int)) : Prop := (d.map (·.1)).Nodup
theorem dput_old {d : List (Int × Int)} {g v : Int} : ∀ (nd : Nk d), (d.any fun p => decide (p.1 = g)) = true → (d.map fun p => if p.1 = g then (p.1, v) else p).map (·.1) = d.map (·.1) ∧
    ∀ f : Int → Int, wt f (d.map fun p => if p.1 = g then (p.1, v) else p) = wt f d + (v - (dget d g).getD 0) * f g := by
  induction d with
  | nil => intro _ h; cases h
  | cons p d ih =>
    intro nd h
    unfold Nk at nd
    rw [List.map_cons] at nd
    obtain ⟨n1, n2⟩ := List.nodup_cons.mp nd
    by_cases c : p.1 = g
    · have none : ∀ q ∈ d, ¬ q.1 = g := fun q hq e => n1 (List.mem_map.mpr ⟨q, hq, by rw [e, c]⟩)
      have e1 : (d.map fun p => if p.1 = g then (p.1, v) else p) = d := by
        have : ∀ q ∈ d, (if q.1 = g then (q.1, v) else q) = id q := fun q hq => if_neg (none q hq)
        rw [List.map_congr_left this, List.map_id]
      have eg : dget (p :: d) g = some p.2 := by
        unfold dget
        rw [List.find?_cons, decide_eq_true c]; rfl
      refine ⟨?_, fun f => ?_⟩
      · rw [List.map_cons, List.map_cons, List.map_cons, e1, if_pos c]
      · rw [List.map_cons, e1, if_pos c, wt_cons, wt_cons, eg]
        show v * f p.1 + wt f d = p.2 * f p.1 + wt f d + (v - p.2) * f g
        rw [c, Int.sub_mul]; omega
    · have h' : (d.any fun p => decide (p.1 = g)) = true := by
        rw [List.any_cons, decide_eq_false c, Bool.false_or] at h; exact h
      obtain ⟨i1, i2⟩ := ih n2 h'
      have eg : dget (p :: d) g = dget d g := by
        unfold dget
        rw [List.find?_cons, decide_eq_false c]
      refine ⟨?_, fun f => ?_⟩
      · rw [List.map_cons, List.map_cons, List.map_cons, i1, if_neg c]
      · rw [List.map_cons, if_neg c, wt_cons, wt_cons, i2 f, eg]; omega
theorem dput_wt {d : List (Int × Int)} {g m : Int} (nd : Nk d) : Nk (dput d g ((dget d g).getD 0 + m)) ∧ (∀ f : Int → Int, wt f (dput d g ((dget d g).getD 0 + m)) = wt f d + m * f g) ∧ ∀ p ∈ dput d g ((dget d g).getD 0 + m), p.1 = g ∨ ∃ q ∈ d, q.1 = p.1 := by
  unfold dput
  cases c : (d.any fun p => decide (p.1 = g)) with
  | true =>
    rw [if_pos rfl]
    obtain ⟨i1, i2⟩ := dput_old (v := (dget d g).getD 0 + m) nd c
    refine ⟨?_, fun f => ?_, fun p hp => ?_⟩
    · unfold Nk; rw [i1]; exact nd
    · rw [i2 f, show (dget d g).getD 0 + m - (dget d g).getD 0 = m by omega]
    · obtain ⟨q, hq, rfl⟩ := List.mem_map.mp hp
      by_cases e : q.1 = g
      · rw [if_pos e]; exact .inl e
      · rw [if_neg e]; exact .inr ⟨q, hq, rfl⟩
  | false =>
    rw [if_neg Bool.false_ne_true]
    have nn : ∀ q ∈ d, ¬ q.1 = g := fun q hq e => by
      have : (d.any fun p => decide (p.1 = g)) = true := List.any_eq_true.mpr ⟨q, hq, decide_eq_true e⟩
      rw [c] at this; cases this
    have eg : dget d g = none := by
      unfold dget
      rw [List.find?_eq_none.mpr fun q hq => by rw [decide_eq_true_iff]; exact nn q hq]; rfl
    refine ⟨?_, fun f => ?_, fun p hp => ?_⟩
    · unfold Nk
      rw [List.map_append]
      refine List.nodup_append.mpr ⟨nd, by simp, fun a ha b hb e => ?_⟩
      obtain ⟨q, hq, rfl⟩ := List.mem_map.mp ha
      have : b = g := by simpa using hb
      exact nn q hq (e.trans this)
    · rw [wt_app, eg]
      show wt f d + wt f [(g, 0 + m)] = _
      unfold wt
      rw [List.map_cons, List.map_nil, List.sum_cons, List.sum_nil]
      show _ + ((0 + m) * f g + 0) = _
      rw [Int.zero_add, Int.add_zero]
    · rcases List.mem_append.mp hp with h | h
      · exact .inr ⟨p, h, rfl⟩
      · rw [List.mem_singleton.mp h]; exact .inl rfl
section
variable {cs : List Nat} {rows : List (Bool × List Int)}
/-- a dict of rows -/
structure Dk (rows : List (Bool × List Int)) (d : List (Int × Int)) : Prop where
  nk : Nk d
  inn : ∀ p ∈ d, 0 ≤ p.1 ∧ p.1 < (rows.length : Int)
theorem Dk.len {d : List (Int × Int)} (D : Dk rows d) : d.length ≤ rows.length := by
  have h := nodup_le (l := d.map (·.1)) (m := rng 0 (rows.length : Int)) (show (d.map (·.1)).Nodup from D.nk) fun x hx => by
    obtain ⟨p, hp, rfl⟩ := List.mem_map.mp hx
    obtain ⟨a, b⟩ := D.inn p hp
    exact rng_in ⟨a, b⟩
  rwa [List.length_map, rng_len, Int.sub_zero, Int.toNat_natCast] at h
theorem Dk.put {d : List (Int × Int)} (D : Dk rows d) {g m : Int} (h : 0 ≤ g ∧ g < (rows.length : Int)) : Dk rows (dput d g ((dget d g).getD 0 + m)) where
  nk := (dput_wt D.nk).1
  inn := fun p hp => by
    rcases (dput_wt D.nk).2.2 p hp with e | ⟨q, hq, e⟩
    · rw [e]; exact h
    · rw [← e]; exact D.inn q hq
theorem sum_mul (m : Int) (f : Int → Int) : ∀ l : List Int, (l.map fun g => m * f g).sum = m * (l.map f).sum
  | [] => by simp
  | g :: l => by rw [List.map_cons, List.map_cons, List.sum_cons, List.sum_cons, sum_mul m f l, Int.mul_add]
theorem sp_turn (hr : Rd' cs.length rows) {d : List (Int × Int)} (D : Dk rows d) : Sp (r_how_many_14 rows d []) fun r => Dk rows r ∧ ∀ f : Int → Int, wt f r = wt (fun r => ((gs rows r).map f).sum) d := by
  have hl := hr.2.1
  refine Sp.fold (fun i s => Dk rows s ∧ ∀ f : Int → Int, wt f s = wt (fun r => ((gs rows r).map f).sum) (d.take i)) ⟨⟨List.nodup_nil, fun p h => (by cases h)⟩, fun f => rfl⟩ ?_ ?_
  · rintro s y i hy hi he ⟨E, e⟩
    obtain ⟨a, b⟩ := D.inn y hy
    have ix := Mt.ixOk (n := rows.length) a b
    obtain ⟨_, g1⟩ := hr.2.2 _ (Mt.get_mem (d := default) ix)
    refine Sp.chk ix (Sp.fold (fun j r => Dk rows r ∧ ∀ f : Int → Int, wt f r = wt f s + (((gs rows y.1).take j).map fun g => y.2 * f g).sum) ⟨E, fun f => by simp⟩ ?_ ?_)
    · rintro r g j hg hj hje ⟨R, er⟩
      have rl := R.len
      have hgr := g1 g hg
      refine Sp.chk (show r.length < 100000 by omega) (Sp.ret ⟨R.put hgr, fun f => ?_⟩)
      rw [(dput_wt R.nk).2.1 f, er f, show (gs rows y.1).take (j + 1) = (gs rows y.1).take j ++ [g] from take_snoc hje, List.map_append, List.sum_append]
      simp; omega
    · rintro r ⟨R, er⟩
      refine Sp.ret ⟨R, fun f => ?_⟩
      have er := er f
      rw [show ((Dn.get (default : (Bool × (List Int))) rows y.1).2) = gs rows y.1 from rfl, List.take_length] at er
      rw [er, e f, take_snoc he, wt_app, sum_mul]
      unfold wt
      simp
  · rintro s ⟨E, e⟩
    rw [List.take_length] at e
    exact Sp.ret ⟨E, e⟩
theorem wt_cnt (d : List (Int × Int)) (j : Nat) : wt (fun r => ((gs rows r).map (cnt rows j)).sum) d = wt (cnt rows (j + 1)) d := rfl
theorem sp_many (hr : Rd' cs.length rows) {n : Int} (n0 : 0 ≤ n) (n1 : n ≤ 100) : Sp (r_how_many cs rows n) fun r => r = cnt rows n.toNat 0 := by
  have hl := hr.2.1
  show Sp (r_how_many_1 rows n [(0, 1)]) _
  refine Sp.chk (rngOk (by omega) (by omega)) (Sp.fold (fun k s => Dk rows s ∧ ∀ j : Nat, wt (cnt rows j) s = cnt rows (k + j) 0) ⟨⟨by unfold Nk; simp, fun p hp => by
    rw [List.mem_singleton.mp hp]; exact ⟨Int.le_refl _, by have := hr.1; show (0 : Int) < _; omega⟩⟩, fun j => by
    unfold wt; simp⟩ ?_ ?_)
  · rintro s y k hy hk hky ⟨D, e⟩
    show Sp (r_how_many_14 rows s []) _
    refine (sp_turn hr D).imp ?_
    rintro r ⟨R, er⟩
    refine ⟨R, fun j => ?_⟩
    rw [er (cnt rows j), wt_cnt, e (j + 1)]
    congr 1; omega
  · rintro s ⟨D, e⟩
    have e := e 0
    rw [rl] at e
    have dl := D.len
    refine Sp.chk (sz (by omega)) (Sp.chk (fun y hy => ⟨Mt.ixOk (D.inn y hy).1 (D.inn y hy).2, trivial⟩) (Sp.ret ?_))
    rw [Nat.add_zero] at e
    rw [← e]
    have key : ∀ d : List (Int × Int), (((d.filter fun y => mk1 rows y.1).map fun y => y.2)).sum = wt (cnt rows 0) d := by
      intro d
      induction d with
      | nil => rfl
      | cons p d ih =>
        rw [wt_cons, List.filter_cons]
        show _ = p.2 * b2z (mk1 rows p.1) + _
        cases mk1 rows p.1 with
        | true => rw [if_pos rfl, List.map_cons, List.sum_cons, ih, b2z_t, Int.mul_one]
        | false => rw [if_neg Bool.false_ne_true, ih, b2z_f, Int.mul_zero, Int.zero_add]
    exact key s
theorem sp_due (hr : Rd' cs.length rows) (h3 : cs.length ≤ 3) {n : Int} (n0 : 0 ≤ n) (n1 : n ≤ 100) : Sp (r__law_due rows n) fun r => r = cnt rows n.toNat 0 := by
  have hl := hr.2.1
  have h0 := hr.1
  have get_r : ∀ {k : Nat} {s : List Int}, s = rows.map (fun y => cnt rows k 0 * 0) → True := fun _ => trivial
  refine Sp.chk (sz (by omega)) ?_
  show Sp (r__law_due_3 rows n (rows.map fun y => b2z y.1)) _
  have at_ : ∀ {r : Int} {f : Bool × List Int → Int}, 0 ≤ r → r < (rows.length : Int) → Dn.get (default : Int) (rows.map f) r = f (Dn.get (default : Bool × List Int) rows r) := fun {r f} a b => by
    obtain ⟨y, hy⟩ : ∃ y, rows[r.toNat]? = some y := ⟨_, List.getElem?_eq_getElem (by omega)⟩
    unfold Dn.get ix
    rw [if_pos a, if_pos a, List.getElem?_map, hy]; rfl
  refine Sp.chk (rngOk (by omega) (by omega)) (Sp.fold (fun k s => s.length = rows.length ∧ ∀ r : Int, 0 ≤ r → r < (rows.length : Int) → Dn.get (default : Int) s r = cnt rows k r) ⟨by rw [List.length_map], fun r a b => at_ a b⟩ ?_ ?_)
  · rintro s y k hy hk hky ⟨sl, e⟩
    refine Sp.chk (sz (by omega)) (Sp.chk (fun z hz => ⟨sz (by have := (hr.2.2 z hz).1; omega), fun g hg => ⟨Mt.ixOk ((hr.2.2 z hz).2 g hg).1 (by rw [sl]; exact ((hr.2.2 z hz).2 g hg).2), trivial⟩, trivial⟩) (Sp.ret ⟨by rw [List.length_map], fun r a b => ?_⟩))
    rw [at_ a b]
    have hm := Mt.get_mem (d := (default : Bool × List Int)) (Mt.ixOk (n := rows.length) a b)
    show ((gs rows r).map fun y => Dn.get (default : Int) s y).sum = ((gs rows r).map (cnt rows k)).sum
    congr 1
    exact List.map_congr_left fun g hg => e g ((hr.2.2 _ hm).2 g hg).1 ((hr.2.2 _ hm).2 g hg).2
  · rintro s ⟨sl, e⟩
    rw [rl] at e
    exact Sp.chk (Mt.ixOk (by omega) (by omega)) (Sp.ret (e 0 (Int.le_refl _) (by omega)))
/-- words gone through -/
theorem step_sum (nd : cs.Nodup) (hr : Rd' cs.length rows) {w : List Nat} (hw : ∀ c ∈ w, c ∈ cs) (f : Int → Int) : ((chars cs).map fun c => f (stO cs rows (w ++ c))).sum = ((gs rows (stO cs rows w)).map f).sum := by
  have z := zip_step nd hr hw
  have z2 := congrArg (List.map fun p : List Nat × Int => f p.2) z
  rw [List.map_map, List.map_map, List.map_map] at z2
  have e1 : (chars cs).map (fun c => f (stO cs rows (w ++ c))) = ((chars cs).map ((((fun p : List Nat × Int => f p.2) ∘ pr cs rows) ∘ fun c => w ++ c))) := rfl
  rw [e1, ← z2]
  have e2 : List.map ((fun p : List Nat × Int => f p.2) ∘ fun (y51 : (List Nat) × Int) => (w ++ y51.1, y51.2)) (List.zip (chars cs) (gs rows (stO cs rows w))) = ((List.zip (chars cs) (gs rows (stO cs rows w))).map Prod.snd).map f := by rw [List.map_map]; rfl
  show (List.map ((fun p : List Nat × Int => f p.2) ∘ fun (y51 : (List Nat) × Int) => (w ++ y51.1, y51.2)) (List.zip (chars cs) (gs rows (stO cs rows w)))).sum = _
  rw [e2]
  obtain ⟨s0, s1⟩ := stO_in hr hw
  have hm := hr.2.2 _ (Mt.get_mem (d := (default : Bool × List Int)) (Mt.ixOk (n := rows.length) s0 s1))
  rw [List.map_snd_zip (by rw [charsL]; exact Nat.le_of_eq hm.1)]
theorem vw_sum (nd : cs.Nodup) (hr : Rd' cs.length rows) : ∀ (k j : Nat), ((Vw cs k).map fun w => cnt rows j (stO cs rows w)).sum = cnt rows (k + j) 0
  | 0, j => by
    show (cnt rows j (stO cs rows []) + 0) = _
    rw [Nat.zero_add, Int.add_zero]
    unfold stO; rw [chars_nil]; rfl
  | k + 1, j => by
    have ih := vw_sum nd hr k (j + 1)
    rw [show k + 1 + j = k + (j + 1) by omega, ← ih]
    show (((Vw cs k).flatMap fun w => (chars cs).map fun c => w ++ c).map fun w => cnt rows j (stO cs rows w)).sum = _
    have key : ∀ l : List (List Nat), (∀ w ∈ l, ∀ c ∈ w, c ∈ cs) → ((l.flatMap fun w => (chars cs).map fun c => w ++ c).map fun w => cnt rows j (stO cs rows w)).sum = (l.map fun w => cnt rows (j + 1) (stO cs rows w)).sum := by
      intro l
      induction l with
      | nil => intro _; rfl
      | cons w l ih =>
        intro h
        rw [List.flatMap_cons, List.map_append, List.sum_append, List.map_cons, List.sum_cons, ih fun v hv => h v (List.mem_cons_of_mem _ hv), List.map_map]
        congr 1
        exact step_sum nd hr (h w (List.mem_cons_self ..)) (cnt rows j)
    exact key _ fun w hw => (vw_mem hw).2
theorem filter_cnt : ∀ l : List (List Nat), (((l.filter (tkn cs rows)).length : Nat) : Int) = (l.map fun w => cnt rows 0 (stO cs rows w)).sum
  | [] => rfl
  | w :: l => by
    rw [List.filter_cons, List.map_cons, List.sum_cons, ← filter_cnt l]
    show _ = b2z (tkn cs rows w) + _
    cases tkn cs rows w with
    | true => rw [if_pos rfl, List.length_cons, b2z_t]; omega
    | false => rw [if_neg Bool.false_ne_true, b2z_f]; omega
theorem aw_filter : ∀ k : Nat, (Aw cs k).filter (fun y => decide ((y.length : Int) = (k : Int))) = Vw cs k
  | 0 => by
    show ([[]] : List (List Nat)).filter _ = [[]]
    rfl
  | k + 1 => by
    show (Aw cs k ++ Vw cs (k + 1)).filter _ = _
    rw [List.filter_append, List.filter_eq_nil_iff.mpr fun w hw => by
      have := (aw_mem hw).1
      rw [decide_eq_true_iff]; omega, List.nil_append]
    exact List.filter_eq_self.mpr fun w hw => decide_eq_true (by have := (vw_mem hw).1; omega)
theorem sp_right (nd : cs.Nodup) (h3 : cs.length ≤ 3) (hr : Rd' cs.length rows) {n : Int} (n0 : 0 ≤ n) (n1 : n ≤ 100) : Sp (r__law_right cs rows n) fun r => r = true := by
  refine Sp.bind (sp_many hr n0 n1) ?_
  rintro _ rfl
  obtain ⟨d1, d2⟩ := (sp_due hr h3 n0 n1).to (e__law_due rows n)
  refine Sp.chk (fun _ => ⟨fun _ => ⟨d1, trivial⟩, trivial⟩) (Sp.ifF (fun h => ?_) fun _ => ?_)
  · rw [d2, decide_eq_true rfl] at h; cases h
  refine Sp.ifF (fun _ => Sp.ret rfl) fun h5 => ?_
  have h5 : ¬ (5 : Int) < n := of_decide_eq_false h5
  refine Sp.bind (sp_words h3 n0 (by omega)) ?_
  rintro _ rfl
  have al := aw_le h3 (k := n.toNat) (by omega)
  refine Sp.chk (sz (by omega)) (Sp.chk (fun y hy => ⟨sz (by have := (aw_mem hy).1; omega), trivial⟩) ?_)
  have ef : (List.filter (fun (y13 : List Nat) => decide ((y13.length : Int) = n)) (Aw cs n.toNat)).map (fun y => y) = Vw cs n.toNat := by
    rw [List.map_id', ← aw_filter n.toNat, Int.toNat_of_nonneg n0]
  rw [ef]
  have vl := vw_le h3 (k := n.toNat) (by omega)
  have tk_ : ∀ w ∈ Vw cs n.toNat, ok__law_takes cs rows w ∧ m__law_takes cs rows w = tkn cs rows w := fun w hw => (sp_takes hr (vw_mem hw).2).to (e__law_takes cs rows w)
  refine Sp.chk (sz (by omega)) (Sp.chk (fun w hw => ⟨(tk_ w hw).1, trivial⟩) (Sp.ret ?_))
  refine decide_eq_true ?_
  rw [List.map_id']
  have eq : (Vw cs n.toNat).filter (fun y => m__law_takes cs rows y) = (Vw cs n.toNat).filter (tkn cs rows) := List.filter_congr fun w hw => (tk_ w hw).2
  rw [eq, filter_cnt, vw_sum nd hr, Nat.add_zero]
end
theorem sp_law (ns : List Int) (hn : ns.length ≤ 63) : Sp (r_law ns) fun r => r = true := by
  refine bx (by omega) (by omega) fun b hb => ?_
  refine tk hb (by omega) (by omega) fun t b1 hb1 t0 t1 => ?_
  refine colN hb1 (by omega) (by omega) fun cs b2 hb2 hl hc nd => ?_
  have h3 : cs.length ≤ 3 := by omega
  show Sp (r_law_7 ns b2 cs) _
  refine bx (by omega) (by omega) fun b4 hb4 => rdr hb4 (by omega) (by omega) (by omega) fun ra b5 hb5 ha => ?_
  refine bx (by omega) (by omega) fun b6 hb6 => rdr hb6 (by omega) (by omega) (by omega) fun rb b7 hb7 hb => ?_
  show Sp (r_law_12 b2 cs [ra, rb]) _
  refine tk hb2 (by omega) (by omega) fun n1 b8 hb8 p0 p1 => tk hb8 (by omega) (by omega) fun n2 b9 hb9 q0 q1 => tk hb9 (by omega) (by omega) fun n3 b10 _ r0 r1 => ?_
  refine Sp.lpF (fun _ _ => True) (fun _ => False) trivial (fun s n i hn _ _ _ => ?_) fun s _ => Sp.ret rfl
  have hn : 0 ≤ n ∧ n ≤ 100 := by
    simp only [List.mem_cons, List.mem_nil_iff, or_false] at hn
    omega
  have k1 := Mt.cut_len (xs := [ra, rb]) (lo := none) (hi := some (1 : Int))
  refine Sp.chk (sz (by have : (cut [ra, rb] none (some (1 : Int))).length ≤ 2 := k1; show 2 + _ ≤ _; omega)) (Sp.lpTE (fun _ _ => True) (fun _ => False) (fun _ => False) trivial (fun s rows j hy _ _ _ => ?_) (fun s _ => Sp.ret trivial) fun x h => h.elim)
  have hr : Rd' cs.length rows := by
    have mm : rows ∈ ([ra, rb] : List (List (Bool × List Int))) := (List.mem_append.mp hy).elim id Mt.cut_mem
    simp only [List.mem_cons, List.mem_nil_iff, or_false] at mm
    rcases mm with rfl | rfl
    · exact ha
    · exact hb
  refine Sp.bind (sp_right nd h3 hr hn.1 hn.2) ?_
  rintro _ rfl
  exact Sp.if0 (fun h => by cases h) fun _ => Sp.ret trivial
theorem fine (ns : List Int) (hl : ns.length ≤ 63) (_ : ∀ z ∈ ns, Builtin.Int.intBits z ≤ 1048576) : ok_law ns ∧ m_law ns = true := (sp_law ns hl).to (e_law ns)
end Wk

set_option Elab.async false
set_option linter.all false
set_option maxRecDepth 100000
set_option maxHeartbeats 20000000
namespace Wk
open PySem PySem.Spec PyProof.Rows L2 TL Dn
theorem all_mk {l : PySem.W.OpenLaw} {w : World} {K : PySem.W.Frag} {h : Heap} {mg : Str → Option Value} {fa f1 f2 f3 f4 f5 f6 f7 f8 f9 f10 : Addr} (X : K.In h) (G : h.Ns mainGlobals mg) (hfa : mg "law" = some (.ref fa))
    {od1 od2 od3 od4 od5 od6 od7 od8 od9 od10 an1 an2 an3 an4 an5 an6 an7 an8 an9 an10 : Option Addr} {sl1 sl2 sl3 sl4 sl5 sl6 sl7 sl8 sl9 sl10 : Array (Option Value)} {oc1 oc2 oc3 oc4 oc5 oc6 oc7 oc8 oc9 oc10 kV1 kV2 kV3 kV4 kV5 kV6 kV7 kV8 kV9 kV10 dc1 dc2 dc3 dc4 dc5 dc6 dc7 dc8 dc9 dc10 pm1 pm2 pm3 pm4 pm5 pm6 pm7 pm8 pm9 pm10 cd1 cd2 cd3 cd4 cd5 cd6 cd7 cd8 cd9 cd10 ct1 ct2 ct3 ct4 ct5 ct6 ct7 ct8 ct9 ct10 : Value}
    (a1 : PySem.W.nsIn K mainGlobals "_law_box" = some (some (.ref f1))) (l1 : K.lookup f1 = some ⟨oc1, od1, .func (PySem.W.fnOf "_law_box" "_law_box" (defArgs st__law_box) (defBody st__law_box) (defScope st__law_box) .none kV1 dc1 pm1 an1 cd1 ct1), sl1⟩) (c1 : PySem.W.codeIn K cd1 "_law_box" = true) (k1 : PySem.W.keepIn K (.ref f1) = true)
    (a2 : PySem.W.nsIn K mainGlobals "_law_take" = some (some (.ref f2))) (l2 : K.lookup f2 = some ⟨oc2, od2, .func (PySem.W.fnOf "_law_take" "_law_take" (defArgs st__law_take) (defBody st__law_take) (defScope st__law_take) .none kV2 dc2 pm2 an2 cd2 ct2), sl2⟩) (c2 : PySem.W.codeIn K cd2 "_law_take" = true) (k2 : PySem.W.keepIn K (.ref f2) = true)
    (a3 : PySem.W.nsIn K mainGlobals "_law_colours" = some (some (.ref f3))) (l3 : K.lookup f3 = some ⟨oc3, od3, .func (PySem.W.fnOf "_law_colours" "_law_colours" (defArgs st__law_colours) (defBody st__law_colours) (defScope st__law_colours) .none kV3 dc3 pm3 an3 cd3 ct3), sl3⟩) (c3 : PySem.W.codeIn K cd3 "_law_colours" = true) (k3 : PySem.W.keepIn K (.ref f3) = true)
    (a4 : PySem.W.nsIn K mainGlobals "_law_reader" = some (some (.ref f4))) (l4 : K.lookup f4 = some ⟨oc4, od4, .func (PySem.W.fnOf "_law_reader" "_law_reader" (defArgs st__law_reader) (defBody st__law_reader) (defScope st__law_reader) .none kV4 dc4 pm4 an4 cd4 ct4), sl4⟩) (c4 : PySem.W.codeIn K cd4 "_law_reader" = true) (k4 : PySem.W.keepIn K (.ref f4) = true)
    (a5 : PySem.W.nsIn K mainGlobals "how_many" = some (some (.ref f5))) (l5 : K.lookup f5 = some ⟨oc5, od5, .func (PySem.W.fnOf "how_many" "how_many" (defArgs st_how_many) (defBody st_how_many) (defScope st_how_many) .none kV5 dc5 pm5 an5 cd5 ct5), sl5⟩) (c5 : PySem.W.codeIn K cd5 "how_many" = true) (k5 : PySem.W.keepIn K (.ref f5) = true)
    (a6 : PySem.W.nsIn K mainGlobals "_law_due" = some (some (.ref f6))) (l6 : K.lookup f6 = some ⟨oc6, od6, .func (PySem.W.fnOf "_law_due" "_law_due" (defArgs st__law_due) (defBody st__law_due) (defScope st__law_due) .none kV6 dc6 pm6 an6 cd6 ct6), sl6⟩) (c6 : PySem.W.codeIn K cd6 "_law_due" = true) (k6 : PySem.W.keepIn K (.ref f6) = true)
    (a7 : PySem.W.nsIn K mainGlobals "_law_words" = some (some (.ref f7))) (l7 : K.lookup f7 = some ⟨oc7, od7, .func (PySem.W.fnOf "_law_words" "_law_words" (defArgs st__law_words) (defBody st__law_words) (defScope st__law_words) .none kV7 dc7 pm7 an7 cd7 ct7), sl7⟩) (c7 : PySem.W.codeIn K cd7 "_law_words" = true) (k7 : PySem.W.keepIn K (.ref f7) = true)
    (a8 : PySem.W.nsIn K mainGlobals "_law_takes" = some (some (.ref f8))) (l8 : K.lookup f8 = some ⟨oc8, od8, .func (PySem.W.fnOf "_law_takes" "_law_takes" (defArgs st__law_takes) (defBody st__law_takes) (defScope st__law_takes) .none kV8 dc8 pm8 an8 cd8 ct8), sl8⟩) (c8 : PySem.W.codeIn K cd8 "_law_takes" = true) (k8 : PySem.W.keepIn K (.ref f8) = true)
    (a9 : PySem.W.nsIn K mainGlobals "_law_right" = some (some (.ref f9))) (l9 : K.lookup f9 = some ⟨oc9, od9, .func (PySem.W.fnOf "_law_right" "_law_right" (defArgs st__law_right) (defBody st__law_right) (defScope st__law_right) .none kV9 dc9 pm9 an9 cd9 ct9), sl9⟩) (c9 : PySem.W.codeIn K cd9 "_law_right" = true) (k9 : PySem.W.keepIn K (.ref f9) = true)
    (a10 : PySem.W.nsIn K mainGlobals "law" = some (some (.ref f10))) (l10 : K.lookup f10 = some ⟨oc10, od10, .func (PySem.W.fnOf "law" "law" (defArgs st_law) (defBody st_law) (defScope st_law) .none kV10 dc10 pm10 an10 cd10 ct10), sl10⟩) (c10 : PySem.W.codeIn K cd10 "law" = true) (k10 : PySem.W.keepIn K (.ref f10) = true)
    (z1 : PySem.W.nsIn K mainGlobals "bool" = some none) (z2 : PySem.W.nsIn K mainGlobals "int" = some none) (z3 : PySem.W.nsIn K mainGlobals "isinstance" = some none) (z4 : PySem.W.nsIn K mainGlobals "len" = some none) (z5 : PySem.W.nsIn K mainGlobals "list" = some none) (z6 : PySem.W.nsIn K mainGlobals "range" = some none) (z7 : PySem.W.nsIn K mainGlobals "sorted" = some none) (z8 : PySem.W.nsIn K mainGlobals "sum" = some none) (z9 : PySem.W.nsIn K mainGlobals "tuple" = some none) :
    ∃ fd : FuncData, (∀ (s : Shared) (v : Value), BindsTo s fd ⟨[v], []⟩ [("_law_script", v)]) ∧ ∀ base : Heap, K.In base → base.Ns mainGlobals mg → FnG l.prog w K mg base 3 fa fd ["_law_script"] (pr_law K) := by
  have e := hfa.symm.trans (PySem.W.mg_of X G a10)
  cases e
  have B : Bt mg := ⟨PySem.W.mg_none_of X G z1, PySem.W.mg_none_of X G z2, PySem.W.mg_none_of X G z3, PySem.W.mg_none_of X G z4, PySem.W.mg_none_of X G z5, PySem.W.mg_none_of X G z6, PySem.W.mg_none_of X G z7, PySem.W.mg_none_of X G z8, PySem.W.mg_none_of X G z9⟩
  have F1 := fun_mk (st := st__law_box) l1 c1 k1
  have b1 := F1.binds (ps := ["_law_script", "_law_k"]) fun _ _ _ _ _ _ us hl => match us, hl with | [_, _], _ => rfl
  have F2 := fun_mk (st := st__law_take) l2 c2 k2
  have b2 := F2.binds (ps := ["_law_box_here", "_law_many"]) fun _ _ _ _ _ _ us hl => match us, hl with | [_, _], _ => rfl
  have F3 := fun_mk (st := st__law_colours) l3 c3 k3
  have b3 := F3.binds (ps := ["_law_box_here", "_law_many"]) fun _ _ _ _ _ _ us hl => match us, hl with | [_, _], _ => rfl
  have F4 := fun_mk (st := st__law_reader) l4 c4 k4
  have b4 := F4.binds (ps := ["_law_box_here", "_law_colours_here", "_law_most"]) fun _ _ _ _ _ _ us hl => match us, hl with | [_, _, _], _ => rfl
  have F5 := fun_mk (st := st_how_many) l5 c5 k5
  have b5 := F5.binds (ps := ["colours", "reader", "number"]) fun _ _ _ _ _ _ us hl => match us, hl with | [_, _, _], _ => rfl
  have F6 := fun_mk (st := st__law_due) l6 c6 k6
  have b6 := F6.binds (ps := ["_law_rows", "_law_number"]) fun _ _ _ _ _ _ us hl => match us, hl with | [_, _], _ => rfl
  have F7 := fun_mk (st := st__law_words) l7 c7 k7
  have b7 := F7.binds (ps := ["_law_colours_here", "_law_length"]) fun _ _ _ _ _ _ us hl => match us, hl with | [_, _], _ => rfl
  have F8 := fun_mk (st := st__law_takes) l8 c8 k8
  have b8 := F8.binds (ps := ["_law_colours_here", "_law_rows", "_law_word"]) fun _ _ _ _ _ _ us hl => match us, hl with | [_, _, _], _ => rfl
  have F9 := fun_mk (st := st__law_right) l9 c9 k9
  have b9 := F9.binds (ps := ["_law_colours_here", "_law_rows", "_law_number"]) fun _ _ _ _ _ _ us hl => match us, hl with | [_, _, _], _ => rfl
  have F10 := fun_mk (st := st_law) l10 c10 k10
  refine ⟨PySem.W.fnOf "law" "law" (defArgs st_law) (defBody st_law) (defScope st_law) .none kV10 dc10 pm10 an10 cd10 ct10, fun s v => .of_eq rfl, fun base _ _ => ?_⟩
  have Q__law_box : Dn.Cl l.prog w K mg base 1 "_law_box" ["_law_script", "_law_k"] (pr__law_box K) := ⟨f1, _, w__law_box (P := l.prog) (w := w) (base := base) B  F1, PySem.W.mg_of X G a1, k1, b1⟩
  have Q__law_take : Dn.Cl l.prog w K mg base 1 "_law_take" ["_law_box_here", "_law_many"] (pr__law_take K) := ⟨f2, _, w__law_take (P := l.prog) (w := w) (base := base) B  F2, PySem.W.mg_of X G a2, k2, b2⟩
  have Q__law_colours : Dn.Cl l.prog w K mg base 2 "_law_colours" ["_law_box_here", "_law_many"] (pr__law_colours K) := ⟨f3, _, w__law_colours (P := l.prog) (w := w) (base := base) B Q__law_take F3, PySem.W.mg_of X G a3, k3, b3⟩
  have Q__law_reader : Dn.Cl l.prog w K mg base 2 "_law_reader" ["_law_box_here", "_law_colours_here", "_law_most"] (pr__law_reader K) := ⟨f4, _, w__law_reader (P := l.prog) (w := w) (base := base) B Q__law_take F4, PySem.W.mg_of X G a4, k4, b4⟩
  have Q_how_many : Dn.Cl l.prog w K mg base 1 "how_many" ["colours", "reader", "number"] (pr_how_many K) := ⟨f5, _, w_how_many (P := l.prog) (w := w) (base := base) B  F5, PySem.W.mg_of X G a5, k5, b5⟩
  have Q__law_due : Dn.Cl l.prog w K mg base 1 "_law_due" ["_law_rows", "_law_number"] (pr__law_due K) := ⟨f6, _, w__law_due (P := l.prog) (w := w) (base := base) B  F6, PySem.W.mg_of X G a6, k6, b6⟩
  have Q__law_words : Dn.Cl l.prog w K mg base 1 "_law_words" ["_law_colours_here", "_law_length"] (pr__law_words K) := ⟨f7, _, w__law_words (P := l.prog) (w := w) (base := base) B  F7, PySem.W.mg_of X G a7, k7, b7⟩
  have Q__law_takes : Dn.Cl l.prog w K mg base 1 "_law_takes" ["_law_colours_here", "_law_rows", "_law_word"] (pr__law_takes K) := ⟨f8, _, w__law_takes (P := l.prog) (w := w) (base := base) B  F8, PySem.W.mg_of X G a8, k8, b8⟩
  have Q__law_right : Dn.Cl l.prog w K mg base 2 "_law_right" ["_law_colours_here", "_law_rows", "_law_number"] (pr__law_right K) := ⟨f9, _, w__law_right (P := l.prog) (w := w) (base := base) B Q_how_many Q__law_due Q__law_words Q__law_takes F9, PySem.W.mg_of X G a9, k9, b9⟩
  exact w_law (P := l.prog) (w := w) (base := base) B Q__law_box Q__law_colours Q__law_reader Q__law_take Q__law_right F10
theorem walk {l : PySem.W.OpenLaw} {q : Program} {loose : List Str} {XP : (Str → Option Value) → Heap → Prop} {YP : World → Heap → Prop} {d : DefRec} {K : Params → PySem.W.Frag} (hn : l.most = some 63) (hdf : d.params.defaults = [])
    (hY : ∀ (w : World) (h : Heap), YP w h → (K w.params).In h)
    (F : ∀ (w : World) (mg : Str → Option Value) (fa : Addr) (h : Heap), (K w.params).In h → h.Ns mainGlobals mg → mg d.name = some (.ref fa) →
      ∃ fd : FuncData, (∀ (s : Shared) (u : Value), BindsTo s fd ⟨[u], []⟩ [("_law_script", u)]) ∧ ∀ base : Heap, (K w.params).In base → base.Ns mainGlobals mg → FnG l.prog w (K w.params) mg base 3 fa fd ["_law_script"] (pr_law (K w.params))) :
    PySem.W.WalkO q loose XP YP l.row.toRowW d [] (fun f vs => PySem.call f vs) :=
  walk_ofG (n := 63) (k := 3) (x := "_law_script") (sp := fun w => pr_law (K w.params)) hn (by decide) hdf ⟨⟨rfl, by decide, by decide⟩, rfl⟩ hY F (fun w H a ns hl hb _ hS => ⟨ns, (fine ns hl hb).1, by rw [(fine ns hl hb).2]; exact entry hS⟩)
end Wk
open PySem PySem.W PyProof.Rows
set_option maxRecDepth 100000 in
set_option maxHeartbeats 0 in
theorem PySem.Challenge.cw_walktold_k65_how_many_holds : PySem.Challenge.rw_walktold_k65_how_many.Holds := by
  w_on; o_law; k_head; (case hw => w_witness2)
  k_fill
  refine Wk.walk (l := PySem.Challenge.rw_walktold_k65_how_many) rfl rfl (fun w h Y => PySem.W.kIn_of Y) ?F
  case F =>
    intro w mg fa h KX G hmg
    refine' Wk.all_mk KX G hmg ?a1 ?l1 ?c1 ?k1 ?a2 ?l2 ?c2 ?k2 ?a3 ?l3 ?c3 ?k3 ?a4 ?l4 ?c4 ?k4 ?a5 ?l5 ?c5 ?k5 ?a6 ?l6 ?c6 ?k6 ?a7 ?l7 ?c7 ?k7 ?a8 ?l8 ?c8 ?k8 ?a9 ?l9 ?c9 ?k9 ?a10 ?l10 ?c10 ?k10 ?z1 ?z2 ?z3 ?z4 ?z5 ?z6 ?z7 ?z8 ?z9
    (case a1 => k_is); (case l1 => k_is); (case c1 => k_is); (case k1 => k_is); (case a2 => k_is); (case l2 => k_is); (case c2 => k_is); (case k2 => k_is); (case a3 => k_is); (case l3 => k_is); (case c3 => k_is); (case k3 => k_is); (case a4 => k_is); (case l4 => k_is); (case c4 => k_is); (case k4 => k_is); (case a5 => k_is); (case l5 => k_is); (case c5 => k_is); (case k5 => k_is); (case a6 => k_is); (case l6 => k_is); (case c6 => k_is); (case k6 => k_is); (case a7 => k_is); (case l7 => k_is); (case c7 => k_is); (case k7 => k_is); (case a8 => k_is); (case l8 => k_is); (case c8 => k_is); (case k8 => k_is); (case a9 => k_is); (case l9 => k_is); (case c9 => k_is); (case k9 => k_is); (case a10 => k_is); (case l10 => k_is); (case c10 => k_is); (case k10 => k_is); (case z1 => k_is); (case z2 => k_is); (case z3 => k_is); (case z4 => k_is); (case z5 => k_is); (case z6 => k_is); (case z7 => k_is); (case z8 => k_is); (case z9 => k_is)

