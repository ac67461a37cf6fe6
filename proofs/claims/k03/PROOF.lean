import PyProof.Rows.All
import Wide.All
import OpenK.AllK
import Wide.FinOn
import HandS.ForMost
import HandS.Wide
import HandS.Deep
import HandS.Flow
import HandS.Exc
import HandS.Nested
import KE.KeyNested
import PyProof.ReprRoads
import HandS.IsInst
import HandS.Replace
import HandS.TupAny
import KE.SortData
import HandS.EndBits
import HandS.Strs
import HandS.Rev
import HandS.Zip
import HandS.TupLe
import HandS.RevTup
import PyProof.StrOps2
import HandS.TupMul
import HandS.SetFor
import KE.GoesMore
import PyProof.EnumMake
import HandS.Conv
import HandS.More
import HandS.WideBits
import HandS.TryOnly
import HandS.SortKw
import KE.DataMinMax
import PyProof.CallFns
import HandS.SetTxt0
import KE.OsSortAny
import PyProof.StrWalks
import KE.KDictPairs
import HandS.TupSets
import KE.KDictCopyH
import PyProof.Rows.StrJoinStr
import PyProof.JoinWalk
import PyProof.StrLawsJoin
import HandS.Iter
import KE.KDictDisplayH
import HandS.ExcOwn
import HandS.WordsExc
import HandS.ExcField
import KE.KExcIs
import HandS.ExcInit
import HandS.Codes
import KE.KItemsList
import HandS.Defaults
import PyProof.CollectStr
import HandS.EndTab
import KE.KNestM
import HandS.Style
import HandS.SetKeys
import HandS.Text
import HandS.FStr
import HandS.SuiteRaise
import HandS.ExcInitHot
import PySem.Challenge.RW_walktold_k03_refusals
import HandS.ExcIs
set_option Elab.async false
set_option linter.all false
set_option maxRecDepth 100000
set_option maxHeartbeats 1000000
namespace Dn
open PySem PySem.Spec PyProof.Rows L2 LamX NdefX
structure Dat where
  d : PyData
  dp : d.depth ≤ 8
  nd : d.hasDict = false
instance : Inhabited Dat := ⟨⟨.none, by simp [PyData.depth], by simp [PyData.hasDict]⟩⟩
mutual
theorem dp_mono {K : PySem.W.Frag} {G G' : Hp} (e : Same G G') : ∀ (d : PyData) (v : V), Dp K G v d → Dp K G' v d
  | .none, _, h => by cases h; exact .non
  | .bool b, _, h => by cases h; exact .bl b
  | .int i, _, h => by cases h; exact .int i
  | .str x, _, h => by cases h; exact .str x
  | .list ds, _, h => by
    cases h with
    | lst hs ha =>
      refine .lst ?_ (dp_monoAll e ds _ ha)
      rcases hs with (h | ⟨o, h⟩) | h
      · exact .inl (.inl (e _ _ h))
      · exact .inl (.inr ⟨o, e _ _ h⟩)
      · exact .inr h
  | .tuple ds, _, h => by
    cases h with
    | tup hs ha =>
      refine .tup ?_ (dp_monoAll e ds _ ha)
      rcases hs with (h | ⟨o, h⟩) | h
      · exact .inl (.inl (e _ _ h))
      · exact .inl (.inr ⟨o, e _ _ h⟩)
      · exact .inr h
  | .dict _, _, h => by cases h
theorem dp_monoAll {K : PySem.W.Frag} {G G' : Hp} (e : Same G G') : ∀ (ds : List PyData) (vs : List V), DpAll K G vs ds → DpAll K G' vs ds
  | [], _, h => by cases h; exact .nil
  | d :: ds, _, h => by
    cases h with
    | cons h1 h2 => exact .cons (dp_mono e d _ h1) (dp_monoAll e ds _ h2)
end
inductive Ty where
  | dat | ex
  | int | bool | str | non | scr
  | opt (t : Ty) | lst (t : Ty) | tup (t : Ty)
  | p2 (a b : Ty) | p3 (a b c : Ty) | p4 (a b c d : Ty) | p5 (a b c d e : Ty)
  | iu (t : Ty) | si | sm (a b : Ty)
@[reducible] def Ty.den : Ty → Type
  | .dat => Dat
  | .ex => Nat × Int
  | .int => Int
  | .bool => Bool
  | .str => List Nat
  | .non => Unit
  | .scr => List Int
  | .opt t => Option t.den
  | .lst t => List t.den
  | .tup t => List t.den
  | .p2 a b => a.den × b.den
  | .p3 a b c => a.den × b.den × c.den
  | .p4 a b c d => a.den × b.den × c.den × d.den
  | .p5 a b c d e => a.den × b.den × c.den × d.den × e.den
  | .iu t => Int ⊕ List t.den
  | .si => List Nat ⊕ Int
  | .sm a b => a.den ⊕ b.den
def vS (x : List Nat) : V := .str ⟨x.toArray⟩
theorem vS_inj {x y : List Nat} (h : vS x = vS y) : x = y := by
  unfold vS at h
  injection h with h
  injection h with h
  exact List.toArray_inj h
def TupD (H : Hp) (a : Addr) (xs : List V) : Prop := ∃ o : Obj, H a = some (.frz o (.tup xs)) ∧ o.dict = none
theorem TupD.t {K : PySem.W.Frag} {H : Hp} {a : Addr} {xs : List V} (h : TupD H a xs) : SqT K H a xs := by
  obtain ⟨o, e, _⟩ := h; exact .inl (.inr ⟨o, e⟩)
theorem TupD.mono {G G' : Hp} {a : Addr} {xs : List V} (e : Same G G') (h : TupD G a xs) : TupD G' a xs := by
  obtain ⟨o, q, d⟩ := h; exact ⟨o, e _ _ q, d⟩
class Tb0 where
  ts : List NTab
  cs : Nat → Value × Option Str := fun _ => (.none, none)
instance (priority := low) tb0_none : Tb0 := { ts := [] }
def ExG (c : Value) (d : Option Addr) (a : Addr) : HO := .ext fun h => ∃ (oe : Obj) (vs : Array Value), h.get? a = some oe ∧ Zc c d oe ∧ oe.data = .fields vs
def ExD (f : Option Str) (x : Int) (G : Hp) (d : Option Addr) : Prop := match f with
  | none => d = none
  | some n => ∃ dd, d = some dd ∧ G dd = some (.xd [(n, .int x)])
theorem exD_mono {f : Option Str} {x : Int} {G G' : Hp} {d : Option Addr} (e : Same G G') (h : ExD f x G d) : ExD f x G' d := by
  cases f with
  | none => exact h
  | some n => obtain ⟨dd, h1, h2⟩ := h; exact ⟨dd, h1, e _ _ h2⟩
def XcOk (G : Hp) (v : V) (c : Value) (f : Option Str) (x : Int) : Prop := ∃ a d, v = .ref a ∧ G a = some (ExG c d a) ∧ ExD f x G d
variable [Tb0]
section
variable (K : PySem.W.Frag)
def Rep : (t : Ty) → Hp → V → t.den → Prop
  | .dat, G, v, x => Dp K G v x.d
  | .ex, G, v, x => XcOk G v (Tb0.cs x.1).1 (Tb0.cs x.1).2 x.2
  | .int, _, v, x => v = .int x
  | .bool, _, v, x => v = .bl x
  | .str, _, v, x => v = vS x
  | .non, _, v, _ => v = .non
  | .scr, G, v, x => ∃ a, v = .ref a ∧ SqL K G a (List.map V.int x)
  | .opt t, G, v, x => match x with
    | none => v = .non
    | some y => v ≠ .non ∧ Rep t G v y
  | .lst t, G, v, x => ∃ a vs, v = .ref a ∧ Rd G a (.lst vs) ∧ Paired (fun u y => Rep t G u y) vs x
  | .tup t, G, v, x => ∃ a vs, v = .ref a ∧ TupD G a vs ∧ Paired (fun u y => Rep t G u y) vs x
  | .si, G, v, x => match x with
    | .inl s => v = vS s
    | .inr i => v = .int i
  | .sm a b, G, v, x => match x with
    | .inl y => Rep a G v y
    | .inr y => Rep b G v y
  | .iu t, G, v, x => match x with
    | .inl i => v = .int i
    | .inr y => ∃ a vs, v = .ref a ∧ TupD G a vs ∧ Paired (fun u z => Rep t G u z) vs y
  | .p2 a b, G, v, x => ∃ p v1 v2, v = .ref p ∧ G p = some (.tup [v1, v2]) ∧ Rep a G v1 x.1 ∧ Rep b G v2 x.2
  | .p3 a b c, G, v, x => ∃ p v1 v2 v3, v = .ref p ∧ G p = some (.tup [v1, v2, v3]) ∧ Rep a G v1 x.1 ∧ Rep b G v2 x.2.1 ∧ Rep c G v3 x.2.2
  | .p4 a b c d, G, v, x => ∃ p v1 v2 v3 v4, v = .ref p ∧ SqT K G p [v1, v2, v3, v4] ∧ Rep a G v1 x.1 ∧ Rep b G v2 x.2.1 ∧ Rep c G v3 x.2.2.1 ∧ Rep d G v4 x.2.2.2
  | .p5 a b c d e, G, v, x => ∃ p v1 v2 v3 v4 v5, v = .ref p ∧ SqT K G p [v1, v2, v3, v4, v5] ∧ Rep a G v1 x.1 ∧ Rep b G v2 x.2.1 ∧ Rep c G v3 x.2.2.1 ∧ Rep d G v4 x.2.2.2.1 ∧ Rep e G v5 x.2.2.2.2
end
section
variable {K : PySem.W.Frag}
theorem pm {α β : Type} {F F' : α → β → Prop} {l : List α} {m : List β} (h : Paired F l m) (f : ∀ a b, F a b → F' a b) : Paired F' l m := by
  induction h with
  | nil => exact .nil
  | cons r _ ih => exact .cons (f _ _ r) ih
theorem rd_mono {G G' : Hp} {a : Addr} {u : HO} (e : Same G G') (h : Rd G a u) : Rd G' a u := by
  rcases h with h | ⟨o, h⟩
  · exact .inl (e _ _ h)
  · exact .inr ⟨o, e _ _ h⟩
theorem sqt_mono {G G' : Hp} {a : Addr} {xs : List V} (e : Same G G') (h : SqT K G a xs) : SqT K G' a xs := by
  rcases h with (h | ⟨o, h⟩) | h
  · exact .inl (.inl (e _ _ h))
  · exact .inl (.inr ⟨o, e _ _ h⟩)
  · exact .inr h
theorem tT {G : Hp} {a : Addr} {xs : List V} (h : G a = some (.tup xs)) : SqT K G a xs := .inl (.inl h)
theorem sql_mono {G G' : Hp} {a : Addr} {xs : List V} (e : Same G G') (h : SqL K G a xs) : SqL K G' a xs := by
  rcases h with (h | ⟨o, h⟩) | h
  · exact .inl (.inl (e _ _ h))
  · exact .inl (.inr ⟨o, e _ _ h⟩)
  · exact .inr h
theorem rep_mono {G G' : Hp} (e : Same G G') : ∀ (t : Ty) (v : V) (x : t.den), Rep K t G v x → Rep K t G' v x
  | .dat, _, x, h => dp_mono e x.d _ h
  | .ex, _, _, ⟨a, d, h1, h2, h3⟩ => ⟨a, d, h1, e _ _ h2, exD_mono e h3⟩
  | .int, _, _, h => h
  | .bool, _, _, h => h
  | .str, _, _, h => h
  | .non, _, _, h => h
  | .scr, _, _, ⟨a, h1, h2⟩ => ⟨a, h1, sql_mono e h2⟩
  | .opt t, v, none, h => h
  | .opt t, v, some y, h => ⟨h.1, rep_mono e t v y h.2⟩
  | .lst t, _, _, ⟨a, vs, h1, h2, h3⟩ => ⟨a, vs, h1, rd_mono e h2, pm h3 fun u y q => rep_mono e t u y q⟩
  | .tup t, _, _, ⟨a, vs, h1, h2, h3⟩ => ⟨a, vs, h1, h2.mono e, pm h3 fun u y q => rep_mono e t u y q⟩
  | .si, _, .inl i, h => h
  | .si, _, .inr i, h => h
  | .sm a _, _, .inl y, h => rep_mono e a _ y h
  | .sm _ b, _, .inr y, h => rep_mono e b _ y h
  | .iu t, _, .inl i, h => h
  | .iu t, _, .inr y, ⟨a, vs, h1, h2, h3⟩ => ⟨a, vs, h1, h2.mono e, pm h3 fun u y q => rep_mono e t u y q⟩
  | .p2 a b, _, _, ⟨p, v1, v2, h0, h1, h2, h3⟩ => ⟨p, v1, v2, h0, e _ _ h1, rep_mono e a _ _ h2, rep_mono e b _ _ h3⟩
  | .p3 a b c, _, _, ⟨p, v1, v2, v3, h0, h1, h2, h3, h4⟩ => ⟨p, v1, v2, v3, h0, e _ _ h1, rep_mono e a _ _ h2, rep_mono e b _ _ h3, rep_mono e c _ _ h4⟩
  | .p4 a b c d, _, _, ⟨p, v1, v2, v3, v4, h0, h1, h2, h3, h4, h5⟩ => ⟨p, v1, v2, v3, v4, h0, sqt_mono e h1, rep_mono e a _ _ h2, rep_mono e b _ _ h3, rep_mono e c _ _ h4, rep_mono e d _ _ h5⟩
  | .p5 a b c d f, _, _, ⟨p, v1, v2, v3, v4, v5, h0, h1, h2, h3, h4, h5, h6⟩ => ⟨p, v1, v2, v3, v4, v5, h0, sqt_mono e h1, rep_mono e a _ _ h2, rep_mono e b _ _ h3, rep_mono e c _ _ h4, rep_mono e d _ _ h5, rep_mono e f _ _ h6⟩
end
abbrev RepL (K : PySem.W.Frag) (t : Ty) (G : Hp) : List V → List t.den → Prop := Paired (fun u y => Rep K t G u y)
theorem repL_mono {K : PySem.W.Frag} {G G' : Hp} (e : Same G G') {t : Ty} {vs : List V} {xs : List t.den} (h : RepL K t G vs xs) : RepL K t G' vs xs := pm h fun u y q => rep_mono e t u y q
theorem pair_len {α β : Type} {F : α → β → Prop} {l : List α} {m : List β} (h : Paired F l m) : l.length = m.length := by
  induction h with
  | nil => rfl
  | cons _ _ ih => simp [ih]
theorem pair_get {α β : Type} {F : α → β → Prop} : ∀ {l : List α} {m : List β} {i : Nat} {y : β}, Paired F l m → m[i]? = some y → ∃ x, l[i]? = some x ∧ F x y
  | _, _, _, _, .nil, e => by simp at e
  | _, _, 0, _, .cons r _, e => by simp at e; subst e; exact ⟨_, rfl, r⟩
  | _, _, i + 1, y, .cons _ t, e => by
    obtain ⟨x, h1, h2⟩ := pair_get (i := i) (y := y) t (by simpa using e)
    exact ⟨x, by simpa using h1, h2⟩
theorem pair_app {α β : Type} {F : α → β → Prop} : ∀ {l l' : List α} {m m' : List β}, Paired F l m → Paired F l' m' → Paired F (l ++ l') (m ++ m')
  | _, _, _, _, .nil, s => s
  | _, _, _, _, .cons r t, s => .cons r (pair_app t s)
theorem pair_set {α β : Type} {F : α → β → Prop} {x : α} {y : β} (r : F x y) : ∀ {l : List α} {m : List β} (i : Nat), Paired F l m → Paired F (l.set i x) (m.set i y)
  | _, _, _, .nil => .nil
  | _, _, 0, .cons _ t => .cons r t
  | _, _, i + 1, .cons q t => .cons q (pair_set r i t)
def nk : (t : Ty) → t.den → NestedKey
  | .int, x => .num x
  | .bool, x => .num (if x = true then 1 else 0)
  | .str, x => .text ⟨x.toArray⟩
  | .opt t, x => match x with
    | none => .none
    | some y => nk t y
  | .tup t, x => .tup (List.map (fun y => nk t y) x)
  | .p2 a b, x => .tup [nk a x.1, nk b x.2]
  | .p3 a b c, x => .tup [nk a x.1, nk b x.2.1, nk c x.2.2]
  | _, _ => .none
def entN (w : World) (x : NestedKey × Value × Value) : DictEntry := ⟨x.1.hash w, x.2.1, x.2.2⟩
def DNp (w : World) (a : Addr) (ws : List (NestedKey × V × V)) (h : Heap) : Prop :=
  ws.length ≤ sizeLine ∧ (a == sysModules) = false ∧ ∃ xs : List (NestedKey × Value × Value), Paired (fun p q => p.1 = q.1 ∧ RelV p.2.1 q.2.1 ∧ RelV p.2.2 q.2.2) ws xs ∧
    ∃ o es ep, h.get? a = some o ∧ o.ExactDict ∧ o.data = .dict es ep ∧ es.toList = xs.map (entN w) ∧ (xs.map (·.1)).Nodup
def DN (w : World) (a : Addr) (ws : List (NestedKey × V × V)) : HO := .ext (DNp w a ws)
def key1 : (t : Ty) → t.den → Key
  | .int, x => .inl x
  | .str, x => .inr ⟨x.toArray⟩
  | _, _ => .inl 0
def keyL : (t : Ty) → t.den → List Key
  | .p2 a b, x => [key1 a x.1, key1 b x.2]
  | .p3 a b c, x => [key1 a x.1, key1 b x.2.1, key1 c x.2.2]
  | _, _ => []
def NB (o : HO) : Prop := ∀ ps, o ≠ .tbl ps
def NT (o : HO) : Prop := (∀ xs, o ≠ .tup xs) ∧ NB o
theorem NT.lst {xs : List V} : NT (.lst xs) := ⟨(fun _ z => by cases z), (fun _ z => by cases z)⟩
def TbOk (G H : Hp) : Prop := ∀ p ∈ Tb0.ts, G p.1 = none ∧ ∃ ps : Array Value, H p.1 = some (.tbl ps) ∧ TriplesOk ps.toList ∧ ∀ (pos : Pos) (cv : Value), codeAmong pos ps.toList = some cv → ∃ c, cv = .ref c ∧ G c = some (CodeO c (p.2 pos.line pos.col))
def SameN (H H' : Hp) : Prop := ∀ b o, H b = some o → (NB o → H' b = some o) ∧ H' b ≠ none
theorem SameN.of {H H' : Hp} (e : Same H H') : SameN H H' := fun b o h => ⟨fun _ => e b o h, by rw [e b o h]; simp⟩
theorem SameN.refl (H : Hp) : SameN H H := .of (Same.refl H)
theorem SameN.free {H H' : Hp} (e : SameN H H') {l : Addr} (h : H' l = none) : H l = none := by
  cases q : H l with
  | none => rfl
  | some o => exact absurd h (e l o q).2
theorem SameN.trans {H H1 H2 : Hp} (a : SameN H H1) (b : SameN H1 H2) : SameN H H2 := fun c o h => by
  refine ⟨fun n => (b c o ((a c o h).1 n)).1 n, fun z => (a c o h).2 (b.free z)⟩
theorem SameN.transS {H H1 H2 : Hp} (a : SameN H H1) (b : Same H1 H2) : SameN H H2 := a.trans (.of b)
theorem sameN_self {o : HO} {x : Option HO} (e : x = some o) : (NB o → x = some o) ∧ x ≠ none := ⟨fun _ => e, by rw [e]; simp⟩
theorem sameN_eq {o u : HO} (e : some o = some u) : (NB u → some o = some u) ∧ some o ≠ none := sameN_self e
section
theorem TbOk.mono {G G' H : Hp} (t : TbOk G H) (s : Same G G') (n : ∀ q ps, H q = some (.tbl ps) → G q = none → G' q = none) : TbOk G' H := fun p m => by
  obtain ⟨h0, ps, h1, h2, h3⟩ := t p m
  exact ⟨n _ _ h1 h0, ps, h1, h2, fun pos cv e => by obtain ⟨c, e1, e2⟩ := h3 pos cv e; exact ⟨c, e1, s _ _ e2⟩⟩
theorem TbOk.updG {G H : Hp} {p : Addr} {o : HO} (t : TbOk G H) (g : G p = none) (e : ∀ ps, H p ≠ some (.tbl ps)) : TbOk (upd G p o) H := t.mono (fun b x e => by rw [upd_ne (ne_of_none e g)]; exact e) fun q ps h z => by
  rw [upd_ne (fun y => e ps (by rw [← y]; exact h))]; exact z
theorem nt_tbl {H : Hp} {p : Addr} {o : HO} (h : H p = some o) (n : NT o) : ∀ ps, H p ≠ some (.tbl ps) := fun ps z => by rw [h] at z; cases z; exact n.2 ps rfl
theorem no_tbl {H : Hp} {p : Addr} (h : H p = none) : ∀ ps, H p ≠ some (.tbl ps) := fun ps z => by rw [h] at z; cases z
theorem TbOk.same {G H H' : Hp} (t : TbOk G H) (s : Same H H') : TbOk G H' := fun p m => by
  obtain ⟨h0, ps, h1, h2, h3⟩ := t p m
  exact ⟨h0, ps, s _ _ h1, h2, h3⟩
theorem TbOk.new {G H : Hp} {p : Addr} {ho : HO} (t : TbOk G H) (h : H p = none) : TbOk G (upd H p ho) := fun q m => by
  obtain ⟨h0, ps, h1, h2, h3⟩ := t q m
  exact ⟨h0, ps, (upd_ne (ne_of_none h1 h)).trans h1, h2, h3⟩
theorem TbOk.put {G H : Hp} {p : Addr} {o ho : HO} (t : TbOk G H) (h : H p = some o) (n : NT o) : TbOk G (upd H p ho) := fun q m => by
  obtain ⟨h0, ps, h1, h2, h3⟩ := t q m
  exact ⟨h0, ps, (upd_ne (fun z => by rw [z, h] at h1; cases h1; exact n.2 ps rfl)).trans h1, h2, h3⟩
def Kp (H G' H' : Hp) : Prop := SameN H H' ∧ TbOk G' H'
end
inductive Fld where
  | v (t : Ty) (x : t.den)
  | d (t : Ty) (kvs : List (List Nat × t.den))
inductive Own where
  | lst (t : Ty) (xs : List t.den)
  | dct (t : Ty) (kvs : List (Int × t.den))
  | dtt (k t : Ty) (kvs : List (k.den × t.den))
  | dks (t : Ty) (kvs : List (List Nat × t.den))
  | dnk (w : World) (k t : Ty) (kvs : List (k.den × t.den))
  | xc (c : Value) (f : Option Str) (x : Int)
  | inb (C dx : Addr) (fs : List (Str × Fld))
  | ins (C : Addr) (fs : List (Str × Fld))
  | fnp (φ : Hp → V → Prop) (mono : ∀ (G G' : Hp) (v : V), Same G G' → φ G v → φ G' v)
inductive Slot where
  | un
  | fr (t : Ty) (x : t.den)
  | ow (pin : Bool) (o : Own)
  | ns (t : Ty) (xss : List (List t.den))
  | mb (t : Ty) (x : Option t.den)
  | fd (o : Own)
def Slot.isNs : Slot → Bool
  | .ns _ _ => true
  | _ => false
def Slot.isPin : Slot → Bool
  | .ow true _ => true
  | _ => false
def Slot.isOw : Slot → Bool
  | .ow _ _ => true
  | _ => false
def Slot.isLst : Slot → Bool
  | .ow _ (.lst _ _) => true
  | _ => false
def FldOk (K : PySem.W.Frag) (G : Hp) (u : V) : Fld → Prop
  | .v t x => Rep K t G u x
  | .d t kvs => ∃ (p : Addr) (ws : List (Key × V)), u = .ref p ∧ G p = some (.dK ws) ∧ Paired (fun (w : Key × V) (y : List Nat × t.den) => w.1 = Sum.inr ⟨y.1.toArray⟩ ∧ Rep K t G w.2 y.2) ws kvs
theorem fld_mono {K : PySem.W.Frag} {G G' : Hp} (e : Same G G') {u : V} : ∀ {o : Fld}, FldOk K G u o → FldOk K G' u o
  | .v t x, h => rep_mono e t u x h
  | .d t _, ⟨p, ws, h0, h1, h2⟩ => ⟨p, ws, h0, e _ _ h1, pm h2 fun _ _ h => ⟨h.1, rep_mono e t _ _ h.2⟩⟩
abbrev FldsOk (K : PySem.W.Frag) (G : Hp) : List (Str × V) → List (Str × Fld) → Prop := Paired (fun p q => p.1 = q.1 ∧ FldOk K G p.2 q.2)
theorem flds_mono {K : PySem.W.Frag} {G G' : Hp} (e : Same G G') {vs : List (Str × V)} {fs : List (Str × Fld)} (h : FldsOk K G vs fs) : FldsOk K G' vs fs := pm h fun _ _ q => ⟨q.1, fld_mono e q.2⟩
def OwnOk (K : PySem.W.Frag) (G : Hp) (h : HO) : Own → Prop
  | .lst t xs => ∃ vs, h = .lst vs ∧ RepL K t G vs xs
  | .dct t kvs => ∃ ws : List (Key × V), h = .dK ws ∧ Paired (fun (w : Key × V) (y : Int × t.den) => w.1 = Sum.inl y.1 ∧ Rep K t G w.2 y.2) ws kvs
  | .dtt k t kvs => ∃ ws : List (List Key × V), h = .dT ws ∧ Paired (fun (w : List Key × V) (y : k.den × t.den) => w.1 = keyL k y.1 ∧ Rep K t G w.2 y.2) ws kvs
  | .dks t kvs => ∃ ws : List (Key × V), h = .dK ws ∧ Paired (fun (w : Key × V) (y : List Nat × t.den) => w.1 = Sum.inr ⟨y.1.toArray⟩ ∧ Rep K t G w.2 y.2) ws kvs
  | .dnk w k t kvs => ∃ (a : Addr) (ws : List (NestedKey × V × V)), h = DN w a ws ∧ Paired (fun (p : NestedKey × V × V) (y : k.den × t.den) => p.1 = nk k y.1 ∧ Rep K k G p.2.1 y.1 ∧ Rep K t G p.2.2 y.2) ws kvs
  | .xc _ _ _ => False
  | .inb C dx fs => ∃ vs, h = .ins C dx vs ∧ FldsOk K G vs fs
  | .ins _ _ => False
  | .fnp _ _ => False
theorem own_mono {K : PySem.W.Frag} {G G' : Hp} (e : Same G G') {h : HO} : ∀ {o : Own}, OwnOk K G h o → OwnOk K G' h o
  | .lst _ _, ⟨vs, h1, h2⟩ => ⟨vs, h1, repL_mono e h2⟩
  | .dct t _, ⟨ws, h1, h2⟩ => ⟨ws, h1, pm h2 fun _ _ h => ⟨h.1, rep_mono e t _ _ h.2⟩⟩
  | .dtt _ t _, ⟨ws, h1, h2⟩ => ⟨ws, h1, pm h2 fun _ _ h => ⟨h.1, rep_mono e t _ _ h.2⟩⟩
  | .dks t _, ⟨ws, h1, h2⟩ => ⟨ws, h1, pm h2 fun _ _ h => ⟨h.1, rep_mono e t _ _ h.2⟩⟩
  | .dnk _ k t _, ⟨a, ws, h1, h2⟩ => ⟨a, ws, h1, pm h2 fun _ _ h => ⟨h.1, rep_mono e k _ _ h.2.1, rep_mono e t _ _ h.2.2⟩⟩
  | .xc _ _ _, h => h
  | .inb _ _ _, ⟨vs, h1, h2⟩ => ⟨vs, h1, flds_mono e h2⟩
  | .ins _ _, h => h
  | .fnp _ _, h => h
theorem own_nt {K : PySem.W.Frag} {G : Hp} {h : HO} : ∀ {o : Own}, OwnOk K G h o → NT h
  | .lst _ _, ⟨_, h1, _⟩ => ⟨(fun _ z => by rw [h1] at z; cases z), (fun _ z => by rw [h1] at z; cases z)⟩
  | .dct _ _, ⟨_, h1, _⟩ => ⟨(fun _ z => by rw [h1] at z; cases z), (fun _ z => by rw [h1] at z; cases z)⟩
  | .dtt _ _ _, ⟨_, h1, _⟩ => ⟨(fun _ z => by rw [h1] at z; cases z), (fun _ z => by rw [h1] at z; cases z)⟩
  | .dks _ _, ⟨_, h1, _⟩ => ⟨(fun _ z => by rw [h1] at z; cases z), (fun _ z => by rw [h1] at z; cases z)⟩
  | .dnk _ _ _ _, ⟨_, _, h1, _⟩ => ⟨(fun _ z => by rw [h1] at z; cases z), (fun _ z => by rw [h1] at z; cases z)⟩
  | .xc _ _ _, h => h.elim
  | .inb _ _ _, ⟨_, h1, _⟩ => ⟨(fun _ z => by rw [h1] at z; cases z), (fun _ z => by rw [h1] at z; cases z)⟩
  | .ins _ _, h => h.elim
  | .fnp _ _, h => h.elim
structure Fx where
  T : Hp
  b : Addr
def FzOk (K : PySem.W.Frag) (G : Hp) (v : V) : Own → Prop
  | .xc c f x => XcOk G v c f x
  | .lst t xs => ∃ p od ho, v = .ref p ∧ G p = some (.frz od ho) ∧ OwnOk K G ho (.lst t xs)
  | .dct t xs => ∃ p od ho, v = .ref p ∧ G p = some (.frz od ho) ∧ OwnOk K G ho (.dct t xs)
  | .dtt k t xs => ∃ p od ho, v = .ref p ∧ G p = some (.frz od ho) ∧ OwnOk K G ho (.dtt k t xs)
  | .dks t xs => ∃ p od ho, v = .ref p ∧ G p = some (.frz od ho) ∧ OwnOk K G ho (.dks t xs)
  | .dnk w k t xs => ∃ p od ho, v = .ref p ∧ G p = some (.frz od ho) ∧ OwnOk K G ho (.dnk w k t xs)
  | .inb C dx fs => ∃ p od ho, v = .ref p ∧ G p = some (.frz od ho) ∧ OwnOk K G ho (.inb C dx fs)
  | .ins C fs => ∃ a dx vs, v = .ref a ∧ G a = some (.ins C dx vs) ∧ G dx = some (.own a) ∧ FldsOk K G vs fs
  | .fnp φ _ => φ G v
theorem fz_mono {K : PySem.W.Frag} {G G' : Hp} (e : Same G G') {v : V} : ∀ {o : Own}, FzOk K G v o → FzOk K G' v o
  | .xc _ _ _, ⟨a, d, h1, h2, h3⟩ => ⟨a, d, h1, e _ _ h2, exD_mono e h3⟩
  | .lst _ _, ⟨p, od, ho, h1, h2, h3⟩ => ⟨p, od, ho, h1, e _ _ h2, own_mono e h3⟩
  | .dct _ _, ⟨p, od, ho, h1, h2, h3⟩ => ⟨p, od, ho, h1, e _ _ h2, own_mono e h3⟩
  | .dtt _ _ _, ⟨p, od, ho, h1, h2, h3⟩ => ⟨p, od, ho, h1, e _ _ h2, own_mono e h3⟩
  | .dks _ _, ⟨p, od, ho, h1, h2, h3⟩ => ⟨p, od, ho, h1, e _ _ h2, own_mono e h3⟩
  | .dnk _ _ _ _, ⟨p, od, ho, h1, h2, h3⟩ => ⟨p, od, ho, h1, e _ _ h2, own_mono e h3⟩
  | .inb _ _ _, ⟨p, od, ho, h1, h2, h3⟩ => ⟨p, od, ho, h1, e _ _ h2, own_mono e h3⟩
  | .ins _ _, ⟨a, dx, vs, h1, h2, h3, h4⟩ => ⟨a, dx, vs, h1, e _ _ h2, e _ _ h3, flds_mono e h4⟩
  | .fnp _ m, h => m _ _ _ e h
def SlotOk (K : PySem.W.Frag) (F : Fx) (G H : Hp) (s : Option (Option V)) : Slot → Prop
  | .un => True
  | .ns _ _ => True
  | .fr t x => ∃ v, s = some (some v) ∧ Rep K t G v x
  | .fd o => ∃ v, s = some (some v) ∧ FzOk K G v o
  | .mb t x => ∀ y, x = some y → ∃ v, s = some (some v) ∧ Rep K t G v y
  | .ow pin o => ∃ p ho, s = some (some (.ref p)) ∧ G p = none ∧ F.T p = none ∧ H p = some ho ∧ OwnOk K G ho o ∧ (pin = true → p = F.b)
def NsOk (K : PySem.W.Frag) (F : Fx) (G : Hp) (σ : L2.St) (H : Hp) (Γ : List Slot) : Prop :=
  ∀ (i : Nat) (t : Ty) (xss : List (List t.den)), Γ[i]? = some (.ns t xss) → (∀ (j : Nat) (s : Slot), Γ[j]? = some s → s.isNs = true → j = i) ∧
    ∃ (p : Addr) (as : List Addr) (vss : List (List V)), σ[i]? = some (some (.ref p)) ∧ H p = some (.lst (as.map V.ref)) ∧ (p :: as).Nodup ∧ Paired (fun a vs => H a = some (.lst vs)) as vss ∧ Paired (fun vs xs => RepL K t G vs xs) vss xss ∧
      ∀ a ∈ p :: as, G a = none ∧ F.T a = none ∧ ∀ (j : Nat) (s : Slot), Γ[j]? = some s → s.isOw = true → σ[j]? ≠ some (some (.ref a))
theorem NsOk.no {K : PySem.W.Frag} {F : Fx} {G : Hp} {σ : L2.St} {H : Hp} {Γ : List Slot} (h : ∀ (i : Nat) (s : Slot), Γ[i]? = some s → s.isNs = false) : NsOk K F G σ H Γ := fun i t xss e => by
  have := h i _ e; cases this
theorem pairs_cell {H : Hp} {as : List Addr} {vss : List (List V)} (h : Paired (fun a vs => H a = some (.lst vs)) as vss) {a : Addr} (ha : a ∈ as) : ∃ vs, H a = some (.lst vs) := by
  induction h with
  | nil => cases ha
  | cons r _ ih =>
    rcases List.mem_cons.mp ha with rfl | q
    · exact ⟨_, r⟩
    · exact ih q
theorem pairs_mem {α β : Type} {P Q : α → β → Prop} {as : List α} {bs : List β} (h : Paired P as bs) (f : ∀ a b, a ∈ as → P a b → Q a b) : Paired Q as bs := by
  induction h with
  | nil => exact .nil
  | cons r _ ih => exact .cons (f _ _ (List.mem_cons_self ..) r) (ih fun a b m => f a b (List.mem_cons_of_mem _ m))
theorem NsOk.goN {K : PySem.W.Frag} {F F' : Fx} {G G' : Hp} {σ σ' : L2.St} {H H' : Hp} {Γ Γ' : List Slot} (N : NsOk K F G σ H Γ)
    (hΓ : ∀ (i : Nat) (t : Ty) (xss : List (List t.den)), Γ'[i]? = some (.ns t xss) → Γ[i]? = some (.ns t xss) ∧ σ'[i]? = σ[i]?) (hG : Same G G')
    (hc : ∀ (a : Addr) (o : HO), H a = some o → NT o → G a = none → F.T a = none → (∀ (j : Nat) (s : Slot), Γ[j]? = some s → s.isOw = true → σ[j]? ≠ some (some (.ref a))) →
      H' a = some o ∧ G' a = none ∧ F'.T a = none ∧ ∀ (j : Nat) (s : Slot), Γ'[j]? = some s → s.isOw = true → σ'[j]? ≠ some (some (.ref a))) : NsOk K F' G' σ' H' Γ' := fun i t xss e => by
  obtain ⟨e1, e2⟩ := hΓ i t xss e
  obtain ⟨one, p, as, vss, h1, h2, h3, h4, h5, h6⟩ := N i t xss e1
  have hp := h6 p (List.mem_cons_self ..)
  refine ⟨fun j s ej sj => ?_, p, as, vss, e2.trans h1, (hc p _ h2 NT.lst hp.1 hp.2.1 hp.2.2).1, h3, pairs_mem h4 fun a vs m q => ?_, pm h5 fun vs xs q => repL_mono hG q, fun a m => ?_⟩
  · cases s with
    | ns t' x' => exact one j _ (hΓ j t' x' ej).1 rfl
    | _ => cases sj
  · have ha := h6 a (List.mem_cons_of_mem _ m)
    exact (hc a _ q NT.lst ha.1 ha.2.1 ha.2.2).1
  · have ha := h6 a m
    have ex : ∃ o, H a = some o ∧ NT o := by
      rcases List.mem_cons.mp m with rfl | m
      · exact ⟨_, h2, NT.lst⟩
      · obtain ⟨vs, q⟩ := pairs_cell h4 m; exact ⟨_, q, NT.lst⟩
    obtain ⟨o, q, hn⟩ := ex
    exact (hc a o q hn ha.1 ha.2.1 ha.2.2).2
theorem NsOk.go {K : PySem.W.Frag} {F F' : Fx} {G G' : Hp} {σ σ' : L2.St} {H H' : Hp} {Γ Γ' : List Slot} (N : NsOk K F G σ H Γ)
    (hΓ : ∀ (i : Nat) (t : Ty) (xss : List (List t.den)), Γ'[i]? = some (.ns t xss) → Γ[i]? = some (.ns t xss) ∧ σ'[i]? = σ[i]?) (hG : Same G G')
    (hc : ∀ (a : Addr) (o : HO), H a = some o → G a = none → F.T a = none → (∀ (j : Nat) (s : Slot), Γ[j]? = some s → s.isOw = true → σ[j]? ≠ some (some (.ref a))) →
      H' a = some o ∧ G' a = none ∧ F'.T a = none ∧ ∀ (j : Nat) (s : Slot), Γ'[j]? = some s → s.isOw = true → σ'[j]? ≠ some (some (.ref a))) : NsOk K F' G' σ' H' Γ' := N.goN hΓ hG fun a o h1 _ h2 h3 h4 => hc a o h1 h2 h3 h4
structure Wd (K : PySem.W.Frag) (F : Fx) (G : Hp) (σ : L2.St) (H : Hp) (Γ : List Slot) : Prop where
  len : σ.length = Γ.length
  gh : Same G H
  th : SameN F.T H
  tg : ∀ b o, F.T b = some o → NT o → G b = none
  sl : ∀ (i : Nat) (s : Slot), Γ[i]? = some s → SlotOk K F G H (σ[i]?) s
  dj : ∀ (i j : Nat) (s s' : Slot) (p : Addr), i ≠ j → Γ[i]? = some s → s.isOw = true → Γ[j]? = some s' → s'.isOw = true → σ[i]? = some (some (.ref p)) → σ[j]? = some (some (.ref p)) → False
  ns : NsOk K F G σ H Γ
  tb : TbOk G H
@[irreducible] def WPE (X : Cx) (e : Expr) : TE := fun σ H Q => ∀ (pins : List (Addr × Obj)) (s : Shared), Inv X pins σ H s → wpAny (model X.prog X.w) X.A (eval e X.env) (EP X pins σ Q) X.xe s
@[irreducible] def WPT (X : Cx) (e : Expr) : TT := fun σ H Q => ∀ (pins : List (Addr × Obj)) (s : Shared), Inv X pins σ H s → wpAny (model X.prog X.w) X.A (isTrue e X.env (eval e X.env)) (TP X pins σ Q) X.xe s
@[irreducible] def WPW (X : Cx) (e : Expr) : TT := fun σ H Q => ∀ (wh : Sem Value) (pins : List (Addr × Obj)) (s : Shared), Inv X pins σ H s → wpAny (model X.prog X.w) X.A (isTrue e X.env wh) (TP X pins σ Q) X.xe s
@[irreducible] def WPA (X : Cx) (es : List Expr) : TA := fun σ H Q => ∀ (pos : Pos) (pins : List (Addr × Obj)) (s : Shared), Inv X pins σ H s → wpAny (model X.prog X.w) X.A (spliced (backTo pos (starEach es X.env))) (AP X pins σ Q) X.xe s
@[irreducible] def WPS (X : Cx) (st : Stmt) : TS := fun D σ H => ∀ (pins : List (Addr × Obj)) (s : Shared), Inv X pins σ H s → wpAny (model X.prog X.w) X.A (exec st X.env) (SP X pins D) X.xe s
@[irreducible] def WPSs (X : Cx) (st : List Stmt) : TS := fun D σ H => ∀ (pins : List (Addr × Obj)) (s : Shared), Inv X pins σ H s → wpAny (model X.prog X.w) X.A (execs st X.env) (SP X pins D) X.xe s
def WPO (X : Cx) (e : Option Expr) : TO := fun σ H Q => ∀ t, PO X e t → t σ H Q → True
section
variable {X : Cx}
theorem pe_wp {e : Expr} : PE X e (WPE X e) := by with_unfolding_all exact ⟨fun pins s σ H Q I h => h pins s I⟩
theorem pt_wp {e : Expr} : PT X e (WPT X e) := by with_unfolding_all exact ⟨fun pins s σ H Q I h => h pins s I⟩
theorem pw_wp {e : Expr} : PW X e (WPW X e) := by with_unfolding_all exact ⟨fun wh pins s σ H Q I h => h wh pins s I⟩
theorem pa_wp {es : List Expr} : PA X es (WPA X es) := by with_unfolding_all exact ⟨fun pos pins s σ H Q I h => h pos pins s I⟩
theorem ps_wp {st : Stmt} : PS X st (WPS X st) := by with_unfolding_all exact ⟨fun pins s σ H D I h => h pins s I⟩
theorem pss_wp {st : List Stmt} : PSs X st (WPSs X st) := by with_unfolding_all exact ⟨fun pins s σ H D I h => h pins s I⟩
theorem wpe_of {e : Expr} {t : TE} {σ : L2.St} {H : Hp} {Q : VK} (p : PE X e t) (h : t σ H Q) : WPE X e σ H Q := by with_unfolding_all exact fun pins s I => p.run pins s σ H Q I h
theorem wpt_of {e : Expr} {t : TT} {σ : L2.St} {H : Hp} {Q : Bool → Hp → Prop} (p : PT X e t) (h : t σ H Q) : WPT X e σ H Q := by with_unfolding_all exact fun pins s I => p.run pins s σ H Q I h
theorem wpw_of {e : Expr} {t : TT} {σ : L2.St} {H : Hp} {Q : Bool → Hp → Prop} (p : PW X e t) (h : t σ H Q) : WPW X e σ H Q := by with_unfolding_all exact fun wh pins s I => p.run wh pins s σ H Q I h
theorem wpa_of {es : List Expr} {t : TA} {σ : L2.St} {H : Hp} {Q : List V → Hp → Prop} (p : PA X es t) (h : t σ H Q) : WPA X es σ H Q := by with_unfolding_all exact fun pos pins s I => p.run pos pins s σ H Q I h
theorem wps_of {st : Stmt} {t : TS} {σ : L2.St} {H : Hp} {D : Ends} (p : PS X st t) (h : t D σ H) : WPS X st D σ H := by with_unfolding_all exact fun pins s I => p.run pins s σ H D I h
theorem wpss_of {st : List Stmt} {t : TS} {σ : L2.St} {H : Hp} {D : Ends} (p : PSs X st t) (h : t D σ H) : WPSs X st D σ H := by with_unfolding_all exact fun pins s I => p.run pins s σ H D I h
theorem wpss_run {st : List Stmt} {σ : L2.St} {H : Hp} {D : Ends} (h : WPSs X st D σ H) : ∀ (pins : List (Addr × Obj)) (s : Shared), Inv X pins σ H s → wpAny (model X.prog X.w) X.A (execs st X.env) (SP X pins D) X.xe s := by with_unfolding_all exact h
theorem wpe_run {e : Expr} {σ : L2.St} {H : Hp} {Q : VK} (h : WPE X e σ H Q) : ∀ (pins : List (Addr × Obj)) (s : Shared), Inv X pins σ H s → wpAny (model X.prog X.w) X.A (eval e X.env) (EP X pins σ Q) X.xe s := by with_unfolding_all exact h
end
def Ev (K : PySem.W.Frag) (te : TE) (Γ : List Slot) (t : Ty) (x : t.den) (Γ' : List Slot) : Prop :=
  ∀ (F : Fx) (G : Hp) (σ : L2.St) (H : Hp), Wd K F G σ H Γ → ∀ Q : VK, (∀ v G' H', Same G G' → Wd K F G' σ H' Γ' → Rep K t G' v x → Q v H') → te σ H Q
def EvO (K : PySem.W.Frag) (te : TE) (Γ : List Slot) (o : Own) (Γ' : List Slot) : Prop :=
  ∀ (F : Fx) (G : Hp) (σ : L2.St) (H : Hp), Wd K F G σ H Γ → ∀ Q : VK, (∀ p ho G' H', Same G G' → Wd K { F with T := upd F.T p ho } G' σ H' Γ' → F.T p = none → OwnOk K G' ho o → Q (.ref p) H') → te σ H Q
def EvT (K : PySem.W.Frag) (tt : TT) (Γ : List Slot) (b : Bool) (Γ' : List Slot) : Prop :=
  ∀ (F : Fx) (G : Hp) (σ : L2.St) (H : Hp), Wd K F G σ H Γ → ∀ Q : Bool → Hp → Prop, (∀ G' H', Same G G' → Wd K F G' σ H' Γ' → Q b H') → tt σ H Q
abbrev DE (X : Cx) (e : Expr) (Γ : List Slot) (t : Ty) (x : t.den) (Γ' : List Slot) : Prop := Ev X.K (WPE X e) Γ t x Γ'
abbrev DO (X : Cx) (e : Expr) (Γ : List Slot) (o : Own) (Γ' : List Slot) : Prop := EvO X.K (WPE X e) Γ o Γ'
abbrev DT (X : Cx) (e : Expr) (Γ : List Slot) (b : Bool) (Γ' : List Slot) : Prop := EvT X.K (WPT X e) Γ b Γ'
abbrev DW (X : Cx) (e : Expr) (Γ : List Slot) (b : Bool) (Γ' : List Slot) : Prop := EvT X.K (WPW X e) Γ b Γ'
end Dn
set_option Elab.async false
set_option linter.all false
set_option maxRecDepth 100000
set_option maxHeartbeats 1000000
namespace Dn
open PySem PySem.Spec PyProof.Rows L2 TL
variable [Tb0]
theorem same_upd {H : Hp} {p : Addr} {o : HO} (h : H p = none) : Same H (upd H p o) := fun b x e => by
  rw [upd_ne (ne_of_none e h)]
  exact e
theorem set_get {Γ : List Slot} {i j : Nat} {s s' : Slot} (e : (Γ.set i s)[j]? = some s') : (i = j ∧ s' = s ∧ i < Γ.length) ∨ (i ≠ j ∧ Γ[j]? = some s') := by
  by_cases h : i = j
  · subst h
    have il : i < Γ.length := by have := (List.getElem?_eq_some_iff.mp e).1; rwa [List.length_set] at this
    rw [List.getElem?_set_self il] at e; cases e
    exact .inl ⟨rfl, rfl, il⟩
  · rw [List.getElem?_set_ne h] at e; exact .inr ⟨h, e⟩
theorem set_ns {Γ : List Slot} {i j : Nat} {s : Slot} {t : Ty} {xss : List (List t.den)} (hs : s.isNs = false) (e : (Γ.set i s)[j]? = some (.ns t xss)) : i ≠ j ∧ Γ[j]? = some (.ns t xss) := by
  rcases set_get e with ⟨_, h, _⟩ | h
  · rw [← h] at hs; cases hs
  · exact h
theorem set_ow {Γ : List Slot} {i j : Nat} {s s' : Slot} (hs : s.isOw = false) (e : (Γ.set i s)[j]? = some s') (o : s'.isOw = true) : i ≠ j ∧ Γ[j]? = some s' := by
  rcases set_get e with ⟨_, h, _⟩ | h
  · rw [h, hs] at o; cases o
  · exact h
section
variable {K : PySem.W.Frag} {F : Fx} {G G' H : Hp} {σ : L2.St} {Γ : List Slot} {p : Addr} {ho : HO}
theorem Wd.gn (W : Wd K F G σ H Γ) (h : H p = none) : G p = none := W.gh.free h
theorem Wd.tn (W : Wd K F G σ H Γ) (h : H p = none) : F.T p = none := W.th.free h
theorem Wd.gt (W : Wd K F G σ H Γ) : Same G H ∧ TbOk G H := ⟨W.gh, W.tb⟩
theorem Wd.new (W : Wd K F G σ H Γ) (h : H p = none) : Wd K { F with T := upd F.T p ho } G σ (upd H p ho) Γ where
  len := W.len
  gh := W.gh.trans (same_upd h)
  th := fun b o e => by
    change upd F.T p ho b = some o at e
    by_cases hb : b = p
    · subst hb; rw [upd_same] at e ⊢; exact sameN_eq e
    · rw [upd_ne hb] at e ⊢; exact W.th b o e
  tb := W.tb.new h
  tg := fun b o e hn => by
    change upd F.T p ho b = some o at e
    by_cases hb : b = p
    · subst hb; exact W.gn h
    · rw [upd_ne hb] at e; exact W.tg b o e hn
  sl := fun i s e => by
    have q := W.sl i s e
    cases s with
    | un => exact q
    | fr t x => exact q
    | fd o => exact q
    | mb t x => exact q
    | ow pin o =>
      obtain ⟨a, ho', h1, h2, h3, h4, h5, h6⟩ := q
      have ne : a ≠ p := ne_of_none h4 h
      exact ⟨a, ho', h1, h2, (by show upd F.T p ho a = none; rw [upd_ne ne]; exact h3), by rw [upd_ne ne]; exact h4, h5, h6⟩
    | ns t x => trivial
  dj := W.dj
  ns := W.ns.go (fun _ _ _ e => ⟨e, rfl⟩) (Same.refl G) fun a o h1 h2 h3 h4 => by
    have ne : a ≠ p := ne_of_none h1 h
    exact ⟨by rw [upd_ne ne]; exact h1, h2, (by show upd F.T p ho a = none; rw [upd_ne ne]; exact h3), h4⟩
theorem Wd.freeze (W : Wd K { F with T := upd F.T p ho } G σ H Γ) (hT : F.T p = none) (hn0 : NT ho) : Wd K F (upd G p ho) σ H Γ where
  len := W.len
  gh := fun b o e => by
    by_cases hb : b = p
    · subst hb; rw [upd_same] at e; cases e; exact (W.th b ho (by show upd F.T b ho b = _; rw [upd_same])).1 hn0.2
    · rw [upd_ne hb] at e; exact W.gh b o e
  tb := W.tb.updG (W.tg p ho (by show upd F.T p ho p = _; rw [upd_same]) hn0) (nt_tbl ((W.th p ho (by show upd F.T p ho p = _; rw [upd_same])).1 hn0.2) hn0)
  th := fun b o e => W.th b o (by show upd F.T p ho b = _; rw [upd_ne (ne_of_none e hT)]; exact e)
  tg := fun b o e hn => by
    have hb : b ≠ p := ne_of_none e hT
    rw [upd_ne hb]; exact W.tg b o (by show upd F.T p ho b = _; rw [upd_ne hb]; exact e) hn
  sl := fun i s e => by
    have q := W.sl i s e
    have gp : G p = none := W.tg p ho (by show upd F.T p ho p = _; rw [upd_same]) hn0
    have sm : Same G (upd G p ho) := same_upd gp
    cases s with
    | un => exact q
    | fr t x => obtain ⟨v, h1, h2⟩ := q; exact ⟨v, h1, rep_mono sm t v x h2⟩
    | fd o => obtain ⟨v, h1, h2⟩ := q; exact ⟨v, h1, fz_mono sm h2⟩
    | mb t x => exact fun y hy => by obtain ⟨v, h1, h2⟩ := q y hy; exact ⟨v, h1, rep_mono sm t v y h2⟩
    | ow pin o =>
      obtain ⟨a, ho', h1, h2, h3, h4, h5, h6⟩ := q
      have h3' : upd F.T p ho a = none := h3
      have ne : a ≠ p := fun z => by subst z; rw [upd_same] at h3'; cases h3'
      rw [upd_ne ne] at h3'
      exact ⟨a, ho', h1, by rw [upd_ne ne]; exact h2, h3', h4, own_mono sm h5, h6⟩
    | ns t x => trivial
  dj := W.dj
  ns := W.ns.go (fun _ _ _ e => ⟨e, rfl⟩) (same_upd (W.tg p ho (by show upd F.T p ho p = _; rw [upd_same]) hn0)) fun a o h1 h2 h3 h4 => by
    have h3' : upd F.T p ho a = none := h3
    have ne : a ≠ p := fun z => by subst z; rw [upd_same] at h3'; cases h3'
    rw [upd_ne ne] at h3'
    exact ⟨h1, by rw [upd_ne ne]; exact h2, h3', h4⟩
theorem Wd.held (W : Wd K { F with T := upd F.T p ho } G σ H Γ) (hn : NT ho) : H p = some ho ∧ G p = none := by
  have e : upd F.T p ho p = some ho := upd_same
  exact ⟨(W.th p ho e).1 hn.2, W.tg p ho e hn⟩
theorem Wd.drop (W : Wd K { F with T := upd F.T p ho } G σ H Γ) (hT : F.T p = none) : Wd K F G σ H Γ where
  len := W.len
  gh := W.gh
  tb := W.tb
  th := fun b o e => W.th b o (by show upd F.T p ho b = _; rw [upd_ne (ne_of_none e hT)]; exact e)
  tg := fun b o e hn => W.tg b o (by show upd F.T p ho b = _; rw [upd_ne (ne_of_none e hT)]; exact e) hn
  sl := fun i s e => by
    have q := W.sl i s e
    cases s with
    | un => exact q
    | fr t x => exact q
    | fd o => exact q
    | mb t x => exact q
    | ow pin o =>
      obtain ⟨a, ho', h1, h2, h3, h4, h5, h6⟩ := q
      have h3' : upd F.T p ho a = none := h3
      have ne : a ≠ p := fun z => by subst z; rw [upd_same] at h3'; cases h3'
      rw [upd_ne ne] at h3'
      exact ⟨a, ho', h1, h2, h3', h4, h5, h6⟩
    | ns t x => trivial
  dj := W.dj
  ns := W.ns.go (fun _ _ _ e => ⟨e, rfl⟩) (Same.refl G) fun a o h1 h2 h3 h4 => by
    have h3' : upd F.T p ho a = none := h3
    have ne : a ≠ p := fun z => by subst z; rw [upd_same] at h3'; cases h3'
    rw [upd_ne ne] at h3'
    exact ⟨h1, h2, h3', h4⟩
theorem Wd.newG (W : Wd K F G σ H Γ) (h : H p = none) : Wd K F (upd G p ho) σ (upd H p ho) Γ where
  len := W.len
  gh := fun b o e => by
    by_cases hb : b = p
    · subst hb; rw [upd_same] at e ⊢; exact e
    · rw [upd_ne hb] at e ⊢; exact W.gh b o e
  th := W.th.transS (same_upd h)
  tb := (W.tb.updG (W.gn h) (no_tbl h)).new h
  tg := fun b o e hn => by
    have hb : b ≠ p := fun z => by subst z; rw [W.tn h] at e; cases e
    rw [upd_ne hb]; exact W.tg b o e hn
  sl := fun i s e => by
    have q := W.sl i s e
    have sm : Same G (upd G p ho) := same_upd (W.gn h)
    cases s with
    | un => exact q
    | fr t x => obtain ⟨v, h1, h2⟩ := q; exact ⟨v, h1, rep_mono sm t v x h2⟩
    | fd o => obtain ⟨v, h1, h2⟩ := q; exact ⟨v, h1, fz_mono sm h2⟩
    | mb t x => exact fun y hy => by obtain ⟨v, h1, h2⟩ := q y hy; exact ⟨v, h1, rep_mono sm t v y h2⟩
    | ow pin o =>
      obtain ⟨a, ho', h1, h2, h3, h4, h5, h6⟩ := q
      have ne : a ≠ p := ne_of_none h4 h
      exact ⟨a, ho', h1, by rw [upd_ne ne]; exact h2, h3, by rw [upd_ne ne]; exact h4, own_mono sm h5, h6⟩
    | ns t x => trivial
  dj := W.dj
  ns := W.ns.go (fun _ _ _ e => ⟨e, rfl⟩) (same_upd (W.gn h)) fun a o h1 h2 h3 h4 => by
    have ne : a ≠ p := ne_of_none h1 h
    exact ⟨by rw [upd_ne ne]; exact h1, by rw [upd_ne ne]; exact h2, h3, h4⟩
theorem own_rep {t : Ty} {xs : List t.den} (W : Wd K { F with T := upd F.T p ho } G σ H Γ) (o : OwnOk K G ho (.lst t xs)) : Rep K (.lst t) (upd G p ho) (.ref p) xs := by
  obtain ⟨vs, rfl, r⟩ := o
  exact ⟨p, vs, rfl, .inl upd_same, repL_mono (same_upd (W.held NT.lst).2) r⟩
end
section
variable {K : PySem.W.Frag} {ta tb tc te : TE} {Γ Γ1 Γ2 Γ3 : List Slot} {t u τ : Ty} {x : t.den} {y : u.den} {c : τ.den}
theorem ev_frz {o : List t.den} (h : EvO K te Γ (.lst t o) Γ1) : Ev K te Γ (.lst t) o Γ1 := fun F G σ H W Q q =>
  h F G σ H W Q fun p ho G' H' sg W' hT ok => q (.ref p) (upd G' p ho) H' (sg.trans (same_upd (W'.held (own_nt ok)).2)) (W'.freeze hT (own_nt ok)) (own_rep W' ok)
theorem ev_op {r : R2} (ha : Ev K ta Γ t x Γ1) (hb : Ev K tb Γ1 u y Γ2)
    (hr : ∀ (G H : Hp) (v w : V) (Q : VK), Same G H → Rep K t G v x → Rep K u G w y → (∀ z, Rep K τ G z c → Q z H) → r v w H Q) : Ev K (tOp r ta tb) Γ τ c Γ2 := fun F G σ H W Q q =>
  ha F G σ H W _ fun v G1 H1 s1 W1 r1 => hb F G1 σ H1 W1 _ fun w G2 H2 s2 W2 r2 =>
    hr G2 H2 v w Q W2.gh (rep_mono s2 t v x r1) r2 fun z rz => q z G2 H2 (s1.trans s2) W2 rz
theorem ev_c {v : V} (h : ∀ G, Rep K τ G v c) : Ev K (tC v) Γ τ c Γ := fun F G σ H W Q q => q v G H (Same.refl G) W (h G)
theorem ev_var {i : Nat} {x : t.den} (h : Γ[i]? = some (.fr t x)) : Ev K (tVar i) Γ t x Γ := fun F G σ H W Q q => by
  obtain ⟨v, h1, h2⟩ := W.sl i _ h
  exact ⟨v, h1, q v G H (Same.refl G) W h2⟩
end
def Sz (n : Nat) : Prop := n ≤ 100000
theorem Sz.le {n : Nat} (h : Sz n) : n ≤ sizeLine := Nat.le_trans h (by decide)
theorem Sz.lt {n : Nat} (h : Sz n) : n < sizeLine := Nat.lt_of_le_of_lt h (by decide)
def MulOk (i j : Int) : Prop := i.natAbs.log2 + j.natAbs.log2 < 1000000
def DivOk (j : Int) : Prop := 0 < j ∧ j.natAbs.log2 < 9000
section
variable {X : Cx} {a b e : Expr} {pos : Pos} {Γ Γ1 Γ2 Γ3 : List Slot}
theorem de_var (i : Nat) {t : Ty} {x : t.den} {n : Str} (h : Γ[i]? = some (.fr t x) := by rfl) (hN : X.N[i]? = some n := by rfl) (hv : Vis X.env.scope n := by first | exact Or.inl rfl | exact Or.inr (Or.inl rfl) | exact Or.inr (Or.inr rfl))
    (hd : (n == ("__debug__" : Str)) = false := by decide) (hcd : (n == ("__classdict__" : Str)) = false := by decide) : DE X (.Name n pos) Γ t x Γ := fun F G σ H W Q q =>
  wpe_of (pe_var hN hv hd hcd) (ev_var h F G σ H W Q q)
theorem de_int {i : Int} {j} : DE X (.Constant (.int i) j pos) Γ .int i Γ := fun F G σ H W Q q => wpe_of pe_int (ev_c (K := X.K) (τ := .int) (c := i) (fun _ => rfl) F G σ H W Q q)
theorem de_bool {i : Bool} {j} : DE X (.Constant (.bool i) j pos) Γ .bool i Γ := fun F G σ H W Q q => wpe_of pe_bl (ev_c (K := X.K) (τ := .bool) (c := i) (fun _ => rfl) F G σ H W Q q)
theorem de_frz {t : Ty} {o : List t.den} (h : DO X e Γ (.lst t o) Γ1) : DE X e Γ (.lst t) o Γ1 := ev_frz h
theorem de_none (t : Ty) {j} : DE X (.Constant .none j pos) Γ (.opt t) none Γ := fun F G σ H W Q q => wpe_of pe_non (ev_c (K := X.K) (τ := .opt t) (c := none) (fun _ => rfl) F G σ H W Q q)
theorem de_add {i j : Int} (ha : DE X a Γ .int i Γ1) (hb : DE X b Γ1 .int j Γ2) : DE X (.BinOp a .Add b pos) Γ .int (i + j) Γ2 := fun F G σ H W Q q =>
  wpe_of (pe_op op_add pe_wp pe_wp) (ev_op (τ := .int) (c := i + j) ha hb (fun G H v w Q _ r1 r2 q => ⟨i, j, r1, r2, q _ rfl⟩) F G σ H W Q q)
theorem de_sub {i j : Int} (ha : DE X a Γ .int i Γ1) (hb : DE X b Γ1 .int j Γ2) : DE X (.BinOp a .Sub b pos) Γ .int (i - j) Γ2 := fun F G σ H W Q q =>
  wpe_of (pe_op op_sub pe_wp pe_wp) (ev_op (τ := .int) (c := i - j) ha hb (fun G H v w Q _ r1 r2 q => ⟨i, j, r1, r2, q _ rfl⟩) F G σ H W Q q)
theorem de_mul {i j : Int} (h : MulOk i j) (ha : DE X a Γ .int i Γ1) (hb : DE X b Γ1 .int j Γ2) : DE X (.BinOp a .Mult b pos) Γ .int (i * j) Γ2 := fun F G σ H W Q q =>
  wpe_of (pe_op op_mulW pe_wp pe_wp) (ev_op (τ := .int) (c := i * j) ha hb (fun G H v w Q _ r1 r2 q => ⟨i, j, r1, r2, h, q _ rfl⟩) F G σ H W Q q)
theorem de_fdiv {i j : Int} (h : DivOk j) (ha : DE X a Γ .int i Γ1) (hb : DE X b Γ1 .int j Γ2) : DE X (.BinOp a .FloorDiv b pos) Γ .int (i / j) Γ2 := fun F G σ H W Q q =>
  wpe_of (pe_op op_fdivW pe_wp pe_wp) (ev_op (τ := .int) (c := i / j) ha hb (fun G H v w Q _ r1 r2 q => ⟨i, j, r1, r2, h, q _ rfl⟩) F G σ H W Q q)
theorem de_mod {i j : Int} (h : 0 < j) (ha : DE X a Γ .int i Γ1) (hb : DE X b Γ1 .int j Γ2) : DE X (.BinOp a .Mod b pos) Γ .int (i % j) Γ2 := fun F G σ H W Q q =>
  wpe_of (pe_op op_mod pe_wp pe_wp) (ev_op (τ := .int) (c := i % j) ha hb (fun G H v w Q _ r1 r2 q => ⟨i, j, r1, r2, h, q _ rfl⟩) F G σ H W Q q)
theorem de_pow {i j : Int} (h : CPow i j) (ha : DE X a Γ .int i Γ1) (hb : DE X b Γ1 .int j Γ2) : DE X (.BinOp a .Pow b pos) Γ .int (i ^ j.toNat) Γ2 := fun F G σ H W Q q =>
  wpe_of (pe_op op_pow pe_wp pe_wp) (ev_op (τ := .int) (c := i ^ j.toNat) ha hb (fun G H v w Q _ r1 r2 q => ⟨i, j, r1, r2, h, q _ rfl⟩) F G σ H W Q q)
@[irreducible] def WPC (X : Cx) (op : CmpOp) (a b : Expr) : TE := fun σ H Q => ∀ (pins : List (Addr × Obj)) (s : Shared), Inv X pins σ H s →
    wpAny (model X.prog X.w) X.A (eval a X.env) (fun v s₁ => wpAny (model X.prog X.w) X.A (eval b X.env) (fun u s₂ => wpAny (model X.prog X.w) X.A (compareOp op v u) (EP X pins σ Q) X.xe s₂) X.xe s₁) X.xe s
abbrev DC (X : Cx) (op : CmpOp) (a b : Expr) (Γ : List Slot) (c : Bool) (Γ' : List Slot) : Prop := Ev X.K (WPC X op a b) Γ .bool c Γ'
theorem pc_wp {op : CmpOp} : PC X op a b (WPC X op a b) := by with_unfolding_all exact ⟨fun pins s σ H Q I h => h pins s I⟩
theorem wpc_of {op : CmpOp} {t : TE} {σ : L2.St} {H : Hp} {Q : VK} (p : PC X op a b t) (h : t σ H Q) : WPC X op a b σ H Q := by with_unfolding_all exact fun pins s I => p.run pins s σ H Q I h
theorem pc_op {op : CmpOp} {r : R2} {ta tb : TE} (ho : OpR X (compareOp op) r) (ha : PE X a ta) (hb : PE X b tb) : PC X op a b (tOp r ta tb) := ⟨fun pins s σ H Q I h =>
  binT ha hb I h fun v u s2 x y H2 I2 rx ry q => ho pins s2 σ H2 x y v u Q I2 rx ry q⟩
theorem de_cmp {op : CmpOp} {c : Bool} (h : DC X op a b Γ c Γ1) (h1 : behindInMarks op b = false := by first | exact nobehind _ (by decide) (by decide) | rfl) : DE X (.Compare a [op] [b] pos) Γ .bool c Γ1 := fun F G σ H W Q q =>
  wpe_of (pe_cmp pc_wp h1) (h F G σ H W Q q)
theorem dt_cmp {op : CmpOp} {c : Bool} (h : DC X op a b Γ c Γ1) (h1 : behindInMarks op b = false := by first | exact nobehind _ (by decide) (by decide) | rfl) : DT X (.Compare a [op] [b] pos) Γ c Γ1 := fun F G σ H W Q q =>
  wpt_of (pt_cmp pc_wp h1) (h F G σ H W _ fun v G' H' s W' r => ⟨c, r, q G' H' s W'⟩)
section
variable {i j : Int}
theorem dc_lt (ha : DE X a Γ .int i Γ1) (hb : DE X b Γ1 .int j Γ2) : DC X .Lt a b Γ (decide (i < j)) Γ2 := fun F G σ H W Q q =>
  wpc_of (pc_op op_lt pe_wp pe_wp) (ev_op (τ := .bool) (c := decide (i < j)) ha hb (fun G H v w Q _ r1 r2 q => ⟨i, j, r1, r2, q _ rfl⟩) F G σ H W Q q)
theorem dc_gt (ha : DE X a Γ .int i Γ1) (hb : DE X b Γ1 .int j Γ2) : DC X .Gt a b Γ (decide (j < i)) Γ2 := fun F G σ H W Q q =>
  wpc_of (pc_op op_gt pe_wp pe_wp) (ev_op (τ := .bool) (c := decide (j < i)) ha hb (fun G H v w Q _ r1 r2 q => ⟨i, j, r1, r2, q _ rfl⟩) F G σ H W Q q)
theorem dc_ge (ha : DE X a Γ .int i Γ1) (hb : DE X b Γ1 .int j Γ2) : DC X .GtE a b Γ (decide (j ≤ i)) Γ2 := fun F G σ H W Q q =>
  wpc_of (pc_op op_ge pe_wp pe_wp) (ev_op (τ := .bool) (c := decide (j ≤ i)) ha hb (fun G H v w Q _ r1 r2 q => ⟨i, j, r1, r2, q _ rfl⟩) F G σ H W Q q)
end
def Ty.scal : Ty → Bool
  | .int => true | .bool => true | .str => true | _ => false
theorem scal_eq {K : PySem.W.Frag} {t : Ty} {x y : t.den} {G : Hp} {v w : V} [DecidableEq t.den] (hs : t.scal = true) (r1 : Rep K t G v x) (r2 : Rep K t G w y) : scal v w = true ∧ decide (v = w) = decide (x = y) := by
  cases t with
  | int => cases r1; cases r2; exact ⟨rfl, by simp⟩
  | bool => cases r1; cases r2; exact ⟨rfl, by simp⟩
  | str =>
    cases r1; cases r2
    refine ⟨rfl, ?_⟩
    by_cases e : x = y
    · subst e; simp
    · rw [decide_eq_false e, decide_eq_false fun z => e (vS_inj z)]
  | _ => cases hs
theorem dc_eqS {t : Ty} {x y : t.den} [DecidableEq t.den] (ha : DE X a Γ t x Γ1) (hb : DE X b Γ1 t y Γ2) (hs : t.scal = true := by rfl) : DC X .Eq a b Γ (decide (x = y)) Γ2 := fun F G σ H W Q q =>
  wpc_of (pc_op op_eq pe_wp pe_wp) (ev_op (τ := .bool) (c := decide (x = y)) ha hb (fun G H v w Q _ r1 r2 q => by
    obtain ⟨h1, h2⟩ := scal_eq hs r1 r2
    exact ⟨h1, q _ (by rw [h2]; rfl)⟩) F G σ H W Q q)
theorem dt_val {c : Bool} (h : DE X e Γ .bool c Γ1) (he : ∀ whole, isTrue e X.env whole = (do let v ← whole; standAt e.pos; holding [v] (truthy v)) := by intro _; rfl) : DT X e Γ c Γ1 := fun F G σ H W Q q =>
  wpt_of (pt_val pe_wp he) (h F G σ H W _ fun v G' H' s W' r => ⟨c, r, q G' H' s W'⟩)
theorem dw_or1 {c : Bool} (h : DT X a Γ c Γ1) : DW X (.BoolOp .Or [a] pos) Γ c Γ1 := fun F G σ H W Q q => wpw_of (pw_or1 pt_wp) (h F G σ H W Q q)
theorem dw_or {c d : Bool} {r : List Expr} (h : DT X a Γ c Γ1) (h2 : c = false → DW X (.BoolOp .Or (b :: r) pos) Γ1 d Γ2) (h3 : c = true → Γ1 = Γ2) : DW X (.BoolOp .Or (a :: b :: r) pos) Γ (c || d) Γ2 := fun F G σ H W Q q =>
  wpw_of (pw_or pt_wp pw_wp) (h F G σ H W _ fun G' H' s W' => by
    cases c with
    | false => exact h2 rfl F G' σ H' W' Q fun G2 H2 s2 W2 => q G2 H2 (s.trans s2) W2
    | true => have e := h3 rfl; subst e; exact q G' H' s W')
theorem dt_pw {c : Bool} (h : DW X e Γ c Γ1) : DT X e Γ c Γ1 := fun F G σ H W Q q => wpt_of pw_wp.pt (h F G σ H W Q q)
theorem dt_not {c : Bool} (h : DT X a Γ c Γ1) : DT X (.UnaryOp .Not a pos) Γ (!c) Γ1 := fun F G σ H W Q q => wpt_of (pt_not pt_wp) (h F G σ H W (fun c H' => Q (!c) H') q)
end
end Dn
set_option Elab.async false
set_option linter.all false
set_option maxRecDepth 100000
set_option maxHeartbeats 1000000
namespace Dn
open PySem PySem.Spec PyProof.Rows L2 TL
variable [Tb0]
def EvL (K : PySem.W.Frag) (te : TE) (Γ : List Slot) (t : Ty) (xs : List t.den) (Γ' : List Slot) : Prop :=
  ∀ (F : Fx) (G : Hp) (σ : L2.St) (H : Hp), Wd K F G σ H Γ → ∀ Q : VK, (∀ a vs G' H', Same G G' → Wd K F G' σ H' Γ' → SqL K H' a vs → RepL K t G' vs xs → Q (.ref a) H') → te σ H Q
def EvU (K : PySem.W.Frag) (te : TE) (Γ : List Slot) (t : Ty) (xs : List t.den) (Γ' : List Slot) : Prop :=
  ∀ (F : Fx) (G : Hp) (σ : L2.St) (H : Hp), Wd K F G σ H Γ → ∀ Q : VK, (∀ a vs G' H', Same G G' → Wd K F G' σ H' Γ' → SqT K H' a vs → RepL K t G' vs xs → Q (.ref a) H') → te σ H Q
def EvQ (K : PySem.W.Frag) (te : TE) (Γ : List Slot) (t : Ty) (xs : List t.den) (Γ' : List Slot) : Prop :=
  ∀ (F : Fx) (G : Hp) (σ : L2.St) (H : Hp), Wd K F G σ H Γ → ∀ Q : VK, (∀ a vs G' H', Same G G' → Wd K F G' σ H' Γ' → (SqL K H' a vs ∨ SqT K H' a vs) → RepL K t G' vs xs → Q (.ref a) H') → te σ H Q
abbrev DL (X : Cx) (e : Expr) (Γ : List Slot) (t : Ty) (x : List t.den) (Γ' : List Slot) : Prop := EvL X.K (WPE X e) Γ t x Γ'
abbrev DU (X : Cx) (e : Expr) (Γ : List Slot) (t : Ty) (x : List t.den) (Γ' : List Slot) : Prop := EvU X.K (WPE X e) Γ t x Γ'
abbrev DQ (X : Cx) (e : Expr) (Γ : List Slot) (t : Ty) (x : List t.den) (Γ' : List Slot) : Prop := EvQ X.K (WPE X e) Γ t x Γ'
section
variable {X : Cx} {a b e : Expr} {es : List Expr} {pos apos : Pos} {Γ Γ1 Γ2 Γ3 : List Slot} {t : Ty} {xs : List t.den}
theorem dq_L (h : DL X e Γ t xs Γ1) : DQ X e Γ t xs Γ1 := fun F G σ H W Q q => h F G σ H W Q fun a vs G' H' s W' h1 h2 => q a vs G' H' s W' (.inl h1) h2
theorem Wd.freezeSlot {K : PySem.W.Frag} {F : Fx} {G : Hp} {σ : L2.St} {H : Hp} {i : Nat} (W : Wd K F G σ H Γ) (h : Γ[i]? = some (.ow false (.lst t xs))) :
    ∃ (p : Addr) (vs : List V), σ[i]? = some (some (.ref p)) ∧ G p = none ∧ H p = some (.lst vs) ∧ RepL K t G vs xs ∧ Wd K F (upd G p (.lst vs)) σ H (Γ.set i (.fr (.lst t) xs)) := by
  obtain ⟨p, ho, h1, h2, h3, h4, h5, h6⟩ := W.sl i _ h
  obtain ⟨vs, rfl, r⟩ := h5
  have sm : Same G (upd G p (.lst vs)) := same_upd h2
  have il : i < Γ.length := (List.getElem?_eq_some_iff.mp h).1
  refine ⟨p, vs, h1, h2, h4, r, by rw [List.length_set]; exact W.len, fun b o e => ?_, W.th, fun b o e => ?_, fun j s e => ?_, fun j k s s' q ne e1 o1 e2 o2 s1 s2 => ?_, W.ns.go (fun j t x e => ⟨(set_ns rfl e).2, rfl⟩) sm fun a o q1 q2 q3 q4 => ⟨q1, by rw [upd_ne (fun z => by subst z; exact q4 i _ h rfl h1)]; exact q2, q3, fun j s e o => q4 j s (set_ow rfl e o).2 o⟩, W.tb.updG h2 (nt_tbl h4 NT.lst)⟩
  · by_cases hb : b = p
    · subst hb; rw [upd_same] at e; rw [h4]; exact e
    · rw [upd_ne hb] at e; exact W.gh b o e
  · have ne : b ≠ p := fun z => by subst z; rw [h3] at e; cases e
    intro hn; rw [upd_ne ne]; exact W.tg b o e hn
  · by_cases hj : i = j
    · subst hj
      rw [List.getElem?_set_self il] at e
      cases e
      exact ⟨.ref p, h1, p, vs, rfl, .inl upd_same, repL_mono sm r⟩
    · rw [List.getElem?_set_ne hj] at e
      have q := W.sl j s e
      cases s with
      | un => exact q
      | fr t x => obtain ⟨v, e1, e2⟩ := q; exact ⟨v, e1, rep_mono sm t v x e2⟩
      | fd o => obtain ⟨v, e1, e2⟩ := q; exact ⟨v, e1, fz_mono sm e2⟩
      | mb t x => exact fun y hy => by obtain ⟨v, e1, e2⟩ := q y hy; exact ⟨v, e1, rep_mono sm t v y e2⟩
      | ow pin o =>
        obtain ⟨a, ho', e1, e2, e3, e4, e5, e6⟩ := q
        have ne : a ≠ p := fun z => by subst z; exact W.dj i j _ _ a hj h rfl e rfl h1 e1
        exact ⟨a, ho', e1, by rw [upd_ne ne]; exact e2, e3, e4, own_mono sm e5, e6⟩
      | ns t x => trivial
  · have hj : i ≠ j := fun z => by subst z; rw [List.getElem?_set_self il] at e1; cases e1; cases o1
    have hk : i ≠ k := fun z => by subst z; rw [List.getElem?_set_self il] at e2; cases e2; cases o2
    rw [List.getElem?_set_ne hj] at e1
    rw [List.getElem?_set_ne hk] at e2
    exact W.dj j k s s' q ne e1 o1 e2 o2 s1 s2
def ix (n : Nat) (i : Int) : Nat := if 0 ≤ i then i.toNat else (i + n).toNat
def IxOk (n : Nat) (i : Int) : Prop := -(n : Int) ≤ i ∧ i < n
theorem ixN_ok {n : Nat} {i : Int} (h : IxOk n i) : ixN n i = some (ix n i) ∧ ix n i < n := by
  obtain ⟨h1, h2⟩ := h
  unfold ixN ix
  by_cases h0 : 0 ≤ i
  · rw [if_pos h0, if_pos h0, if_pos h2]
    exact ⟨rfl, by omega⟩
  · rw [if_neg h0, if_neg h0, if_pos h1]
    exact ⟨rfl, by omega⟩
def get {α : Type} (d : α) (xs : List α) (i : Int) : α := (xs[ix xs.length i]?).getD d
theorem at_ok {K : PySem.W.Frag} {G : Hp} {vs : List V} {i : Int} (d : t.den) (r : RepL K t G vs xs) (h : IxOk xs.length i) : ∃ v, atI vs i = some v ∧ Rep K t G v (get d xs i) := by
  obtain ⟨h1, h2⟩ := ixN_ok h
  have el := pair_len r
  obtain ⟨v, e1, e2⟩ := pair_get r (List.getElem?_eq_getElem h2)
  refine ⟨v, ?_, ?_⟩
  · unfold atI
    rw [el, h1]
    exact e1
  · unfold get
    rw [List.getElem?_eq_getElem h2]
    exact e2
theorem de_ixL (d : t.den) {i : Int} (hi : IxOk xs.length i) (ha : DE X a Γ (.lst t) xs Γ1) (hb : DE X b Γ1 .int i Γ2) (hs : PlainIx b := by exact fun _ _ => rfl) : DE X (.Subscript a b pos) Γ t (get d xs i) Γ2 := fun F G σ H W Q q =>
  wpe_of (pe_ix ix_list pe_wp pe_wp hs) (ev_op (τ := t) (c := get d xs i) ha hb (fun G H v w Q sg r1 r2 q => by
    obtain ⟨p, vs, rfl, h1, h2⟩ := r1
    obtain ⟨v, e1, e2⟩ := at_ok d h2 hi
    exact ⟨p, vs, i, v, rfl, r2, .inl (rd_mono sg h1), e1, q v e2⟩) F G σ H W Q q)
theorem de_ixV (k : Nat) (d : t.den) {n : Str} {apos : Pos} {pin : Bool} {i : Int} (hi : IxOk xs.length i) (hb : DE X b Γ .int i Γ2) (h : Γ2[k]? = some (.ow pin (.lst t xs)) := by rfl) (hN : X.N[k]? = some n := by rfl) (hv : Vis X.env.scope n := by first | exact Or.inl rfl | exact Or.inr (Or.inl rfl) | exact Or.inr (Or.inr rfl))
    (h0 : (Γ[k]?.map Slot.isLst) = some true := by rfl) (hd : (n == ("__debug__" : Str)) = false := by decide) (hcd : (n == ("__classdict__" : Str)) = false := by decide) (hs : PlainIx b := by exact fun _ _ => rfl) : DE X (.Subscript (.Name n apos) b pos) Γ t (get d xs i) Γ2 := fun F G σ H W Q q => by
  have ⟨p, hp⟩ : ∃ p, σ[k]? = some (some (.ref p)) := by
    cases e : Γ[k]? with
    | none => rw [e] at h0; cases h0
    | some s =>
      cases s with
      | ow pin o => obtain ⟨p, _, h1, _⟩ := W.sl k _ e; exact ⟨p, h1⟩
      | _ => rw [e] at h0; cases h0
  refine wpe_of (pe_ix ix_list (pe_var hN hv hd hcd) pe_wp hs) ⟨.ref p, hp, hb F G σ H W _ fun w G2 H2 s2 W2 r2 => ?_⟩
  obtain ⟨p', ho, h1, h2, h3, h4, h5, h6⟩ := W2.sl k _ h
  rw [hp] at h1; cases h1
  obtain ⟨vs, rfl, r⟩ := h5
  obtain ⟨v, e1, e2⟩ := at_ok d r hi
  exact ⟨p, vs, i, v, rfl, r2, .inl (.inl h4), e1, q v G2 H2 s2 W2 e2⟩
section
variable {A B C E' E2 : Ty}
end
inductive Arg where
  | fr (t : Ty) (x : t.den)
  | fd (o : Own)
  | bx (i : Nat)
  | tmp (o : Own)
def ArgOk (K : PySem.W.Frag) (F : Fx) (G H : Hp) (σ : L2.St) (Γ : List Slot) (v : V) : Arg → Prop
  | .fr t x => Rep K t G v x
  | .fd o => FzOk K G v o
  | .bx i => σ[i]? = some (some v)
  | .tmp o => ∃ p ho, v = .ref p ∧ F.T p = none ∧ OwnOk K G ho o ∧ Wd K { F with T := upd F.T p ho } G σ H Γ
def noTmp : Arg → Bool
  | .tmp _ => false
  | _ => true
def EvA (K : PySem.W.Frag) (ta : TA) (Γ : List Slot) (as : List Arg) (Γ' : List Slot) : Prop :=
  ∀ (F : Fx) (G : Hp) (σ : L2.St) (H : Hp), Wd K F G σ H Γ → ∀ Q : List V → Hp → Prop, (∀ vs G' H', Same G G' → Wd K F G' σ H' Γ' → Paired (fun v a => ArgOk K F G' H' σ Γ' v a) vs as → Q vs H') → ta σ H Q
abbrev DA (X : Cx) (es : List Expr) (Γ : List Slot) (as : List Arg) (Γ' : List Slot) : Prop := EvA X.K (WPA X es) Γ as Γ'
theorem da_nil : DA X [] Γ [] Γ := fun F G σ H W Q q => wpa_of pa_nil (q [] G H (Same.refl G) W .nil)
theorem da_cons {as : List Arg} {x : t.den} (ha : DE X e Γ t x Γ1) (hr : DA X es Γ1 as Γ2) (hs : starEach (e :: es) X.env = (false, eval e X.env) :: starEach es X.env := by rfl) : DA X (e :: es) Γ (.fr t x :: as) Γ2 := fun F G σ H W Q q =>
  wpa_of (pa_cons pe_wp pa_wp hs) (ha F G σ H W _ fun v G1 H1 s1 W1 r1 => hr F G1 σ H1 W1 _ fun vs G2 H2 s2 W2 r2 => q (v :: vs) G2 H2 (s1.trans s2) W2 (.cons (rep_mono s2 t v x r1) r2))
theorem da_box (i : Nat) {as : List Arg} {n : Str} {pos : Pos} (hr : DA X es Γ as Γ2) (h0 : (Γ[i]?.map Slot.isLst) = some true := by rfl) (hN : X.N[i]? = some n := by rfl) (hv : Vis X.env.scope n := by first | exact Or.inl rfl | exact Or.inr (Or.inl rfl) | exact Or.inr (Or.inr rfl))
    (hd : (n == ("__debug__" : Str)) = false := by decide) (hcd : (n == ("__classdict__" : Str)) = false := by decide) (hs : starEach (.Name n pos :: es) X.env = (false, eval (.Name n pos) X.env) :: starEach es X.env := by rfl) : DA X (.Name n pos :: es) Γ (.bx i :: as) Γ2 := fun F G σ H W Q q => by
  have ⟨p, hp⟩ : ∃ p, σ[i]? = some (some (.ref p)) := by
    cases e : Γ[i]? with
    | none => rw [e] at h0; cases h0
    | some s =>
      cases s with
      | ow pin o => obtain ⟨p, _, h1, _⟩ := W.sl i _ e; exact ⟨p, h1⟩
      | _ => rw [e] at h0; cases h0
  exact wpa_of (pa_cons (pe_var hN hv hd hcd) pa_wp hs) ⟨.ref p, hp, hr F G σ H W _ fun vs G2 H2 s2 W2 r2 => q (.ref p :: vs) G2 H2 s2 W2 (.cons hp r2)⟩
def Arg.isFr : Arg → Bool
  | .fr _ _ => true
  | .fd _ => true
  | _ => false
end
end Dn
set_option Elab.async false
set_option linter.all false
set_option maxRecDepth 100000
set_option maxHeartbeats 1000000
namespace Dn
open PySem PySem.Spec PyProof.Rows L2 TL
variable [Tb0]
def PzOk (K : PySem.W.Frag) (G : Hp) (v : V) (A k t : Ty) (x : A.den) (kvs : List (k.den × t.den)) : Prop := ∃ p v1 v2, v = .ref p ∧ G p = some (.tup [v1, v2]) ∧ Rep K A G v1 x ∧ FzOk K G v2 (.dtt k t kvs)
inductive Ret where
  | fr (t : Ty) (x : t.den)
  | ow (o : Own)
  | pz (A k t : Ty) (x : A.den) (kvs : List (k.den × t.den))
def RetOk (K : PySem.W.Frag) (G H0 H : Hp) (v : V) : Ret → Prop
  | .fr t x => Rep K t G v x
  | .ow o => ∃ p ho, v = .ref p ∧ H0 p = none ∧ G p = none ∧ H p = some ho ∧ OwnOk K G ho o
  | .pz A k t x kvs => PzOk K G v A k t x kvs
def KpB (b : Addr) (H G' H' : Hp) : Prop := (∀ c o, c ≠ b → H c = some o → (NB o → H' c = some o) ∧ H' c ≠ none) ∧ TbOk G' H'
theorem SameN.kpB {T H G' H' : Hp} {b : Addr} (a : SameN T H) (hb : T b = none) (k : KpB b H G' H') : SameN T H' := fun c o h => by
  have ne : c ≠ b := fun z => by subst z; rw [hb] at h; cases h
  refine ⟨fun n => (k.1 c o ne ((a c o h).1 n)).1 n, ?_⟩
  obtain ⟨u, hu⟩ := Option.ne_none_iff_exists'.mp (a c o h).2
  exact (k.1 c u ne hu).2
def ArgF (K : PySem.W.Frag) (G : Hp) (v : V) : Arg → Prop
  | .fr t x => Rep K t G v x
  | .fd o => FzOk K G v o
  | _ => False
def Pm0 (K : PySem.W.Frag) (as : List Arg) (r : Ret) : Sp := fun vs H Q _ => ∃ G, (Same G H ∧ TbOk G H) ∧ Paired (ArgF K G) vs as ∧
  ∀ v G' H', Same G G' → Same G' H' → Kp H G' H' → (∀ c o, H c = some o → NT o → G c = none → G' c = none) → RetOk K G' H H' v r → Q v H'
def Pm1 (K : PySem.W.Frag) (y y' : Own) (as : List Arg) (r : Ret) : Sp := fun vs H Q _ => ∃ G b ho vs', vs = .ref b :: vs' ∧ (Same G H ∧ TbOk G H) ∧ G b = none ∧ H b = some ho ∧ OwnOk K G ho y ∧ Paired (ArgF K G) vs' as ∧
  ∀ v G' H' ho', Same G G' → Same G' H' → KpB b H G' H' → H' b = some ho' → OwnOk K G' ho' y' → (∀ c o, H c = some o → NT o → G c = none → G' c = none) → RetOk K G' H H' v r → Q v H'
section
variable {K : PySem.W.Frag} {F : Fx} {G G' H H' : Hp} {σ : L2.St} {Γ : List Slot} {vs : List V} {as : List Arg}
theorem argF_of {b : List Slot} (h : Paired (fun v a => ArgOk K F G H σ b v a) vs as) (hf : as.all Arg.isFr = true) : Paired (ArgF K G) vs as := by
  induction h with
  | nil => exact .nil
  | @cons v a _ _ r _ ih =>
    rw [List.all_cons, Bool.and_eq_true] at hf
    refine .cons ?_ (ih hf.2)
    cases a with
    | fr t x => exact r
    | fd o => exact r
    | _ => cases hf.1
theorem Wd.call (W : Wd K F G σ H Γ) (s1 : Same G G') (s2 : Same G' H') (s3 : Kp H G' H') (fr : ∀ c o, H c = some o → NT o → G c = none → G' c = none) : Wd K F G' σ H' Γ where
  len := W.len
  gh := s2
  th := W.th.trans s3.1
  tb := s3.2
  tg := fun b o e hn => fr b o ((W.th b o e).1 hn.2) hn (W.tg b o e hn)
  sl := fun i s e => by
    have q := W.sl i s e
    cases s with
    | un => exact q
    | fr t x => obtain ⟨v, h1, h2⟩ := q; exact ⟨v, h1, rep_mono s1 t v x h2⟩
    | fd o => obtain ⟨v, h1, h2⟩ := q; exact ⟨v, h1, fz_mono s1 h2⟩
    | mb t x => exact fun y hy => by obtain ⟨v, h1, h2⟩ := q y hy; exact ⟨v, h1, rep_mono s1 t v y h2⟩
    | ow pin o =>
      obtain ⟨a, ho', h1, h2, h3, h4, h5, h6⟩ := q
      exact ⟨a, ho', h1, fr a _ h4 (own_nt h5) h2, h3, (s3.1 a _ h4).1 (own_nt h5).2, own_mono s1 h5, h6⟩
    | ns t x => trivial
  dj := W.dj
  ns := W.ns.goN (fun _ _ _ e => ⟨e, rfl⟩) s1 fun a o h1 hn h2 h3 h4 => ⟨(s3.1 a o h1).1 hn.2, fr a o h1 hn h2, h3, h4⟩
theorem Wd.callB {i : Nat} {pin : Bool} {y y' : Own} {b : Addr} {ho' : HO} (W : Wd K F G σ H Γ) (hi : Γ[i]? = some (.ow pin y)) (hb : σ[i]? = some (some (.ref b))) (s1 : Same G G') (s2 : Same G' H') (s3 : KpB b H G' H')
    (fr : ∀ c o, H c = some o → NT o → G c = none → G' c = none) (h' : H' b = some ho') (ok : OwnOk K G' ho' y') : Wd K F G' σ H' (Γ.set i (.ow pin y')) := by
  obtain ⟨b', ho, e1, e2, e3, e4, e5, e6⟩ := W.sl i _ hi
  rw [hb] at e1; cases e1
  have il : i < Γ.length := (List.getElem?_eq_some_iff.mp hi).1
  have isow : ∀ (j : Nat) (s : Slot), (Γ.set i (.ow pin y'))[j]? = some s → s.isOw = true → ∃ s', Γ[j]? = some s' ∧ s'.isOw = true := fun j s e o => by
    by_cases hj : i = j
    · subst hj; exact ⟨_, hi, rfl⟩
    · rw [List.getElem?_set_ne hj] at e; exact ⟨s, e, o⟩
  refine ⟨by rw [List.length_set]; exact W.len, s2, W.th.kpB e3 s3, fun c o e hn => fr c o ((W.th c o e).1 hn.2) hn (W.tg c o e hn), fun j s e => ?_, fun j k s s' q ne a1 o1 a2 o2 => ?_, W.ns.goN (fun j t x e => ⟨(set_ns rfl e).2, rfl⟩) s1 fun a o q1 hn q2 q3 q4 => ⟨(s3.1 a o (fun z => by subst z; exact q4 i _ hi rfl hb) q1).1 hn.2, fr a o q1 hn q2, q3, fun j s e o => by
    obtain ⟨s', e', o'⟩ := isow j s e o
    exact q4 j s' e' o'⟩, s3.2⟩
  · by_cases hj : i = j
    · subst hj
      rw [List.getElem?_set_self il] at e
      cases e
      exact ⟨b, ho', hb, fr b _ e4 (own_nt e5) e2, e3, h', ok, e6⟩
    · rw [List.getElem?_set_ne hj] at e
      have q := W.sl j s e
      cases s with
      | un => exact q
      | fr t x => obtain ⟨v, h1, h2⟩ := q; exact ⟨v, h1, rep_mono s1 t v x h2⟩
      | fd o => obtain ⟨v, h1, h2⟩ := q; exact ⟨v, h1, fz_mono s1 h2⟩
      | mb t x => exact fun y hy => by obtain ⟨v, h1, h2⟩ := q y hy; exact ⟨v, h1, rep_mono s1 t v y h2⟩
      | ow pin' o =>
        obtain ⟨a, ho2, h1, h2, h3, h4, h5, h6⟩ := q
        have ne : a ≠ b := fun z => by subst z; exact W.dj i j _ _ a hj hi rfl e rfl hb h1
        exact ⟨a, ho2, h1, fr a _ h4 (own_nt h5) h2, h3, (s3.1 a _ ne h4).1 (own_nt h5).2, own_mono s1 h5, h6⟩
      | ns t x => trivial
  · obtain ⟨t1, b1, c1⟩ := isow j s a1 o1
    obtain ⟨t2, b2, c2⟩ := isow k s' a2 o2
    exact W.dj j k t1 t2 q ne b1 c1 b2 c2
theorem kpB_upd {p : Addr} {o ho : HO} (t : TbOk G H) (e : H p = some o) (n : NT o) : KpB p H G (upd H p ho) := ⟨fun c u ne z => sameN_self (by rw [upd_ne ne]; exact z), t.put e n⟩
end
structure RoomG (k : Nat) (A : Around) : Prop where
  r : L2.Room k A
  g : A.guards = some []
theorem RoomG.mono {j k : Nat} {A : Around} (h : RoomG k A) (l : j ≤ k) : RoomG j A := ⟨h.r.mono l, h.g⟩
theorem RoomG.units {k : Nat} {A : Around} (h : RoomG k A) : A.units + 64 < cLine := by have := h.r.un; omega
structure FnG (P : Program) (w : World) (K : PySem.W.Frag) (mg : Str → Option Value) (base : Heap) (k : Nat) (f : Addr) (fd : FuncData) (ps : List Str) (sp : Sp) : Prop where
  len : ∀ vs H Q E, sp vs H Q E → vs.length = ps.length
  run : ∀ (A : Around) (outer : List Env) (s : Shared) (H : Hp) (args : Args) (us : List Value) (vs : List V) (Q : VK) (E : XK), RoomG k A → Env0 P w K mg base A outer s H → BindsTo s fd args (ps.zip us) → Vals vs us → sp vs H Q E →
    codeAny (model P w) A (.call (.ref f) args) (CR CX0 outer P w H s Q E) s
section
variable {P : Program} {w : World} {K : PySem.W.Frag} {mg : Str → Option Value} {base : Heap}
theorem fun_okG {x qual : Str} {st : Stmt} {f : Addr} {fd : FuncData} {N ps : List Str} {k : Nat} {sp : Sp} (F : Fun K x qual st f fd) (S : FnScope N ps (defScope st)) (len : ∀ vs H Q E, sp vs H Q E → vs.length = ps.length)
    (hbody : ∀ (cdv : Value) (A : Around) (outer : List Env) (s : Shared) (H : Hp) (vs : List V) (Q : VK) (E : XK), RoomG k (A.deeper (envOfC qual (defScope st) s.heap.objs.size f cdv)) → sp vs H Q E →
      ∃ t, PSs (cxOf CX0 P w K mg base N qual (defScope st) f cdv A outer s H E).nox (defBody st) t ∧ t { nx := fun _ H' => Q .non H', rt := Q } (start N vs) H) : FnG P w K mg base (k + 1) f fd ps sp := by
  obtain ⟨_, _, _, _, _, _, cdv, _, _, rfl, lk, hcd⟩ := F.ex
  refine ⟨len, fun A outer s H args us vs Q E room e0 binds rel hsp => ?_⟩
  have vl := len _ _ _ _ hsp
  have keep : ∀ b o, base.get? b = some o → s.heap.get? b = some o := fun b o e => (e0.bs b o e).1
  have nolim : s.heap.NoLimit := e0.mod.nolimit.keeps keep
  have inK := e0.mod.kin.keeps keep
  refine codeAny_call_function room.r.depth (inK _ _ lk) rfl S.co S.gen rfl (PySem.W.codeRec_of inK hcd) (binds _ _ _ _ ?_)
  refine wpAny_newFunctionEnv_cells S.kind (fun p hp => ?_) fun env he s1 made => ?_
  · cases S.par p.1 (List.of_mem_zip (show (p.1, p.2) ∈ ps.zip us from hp)).1 with
    | inl q => exact .inl q
    | inr q => exact .inr ⟨q, PySem.W.cellsFrom_some _ _ _ (.inl q)⟩
  subst he
  refine ⟨nolim.keeps made.toInCall.keep, codeAny_func ?_⟩
  obtain ⟨t, ht, q⟩ := hbody cdv A outer s H vs Q E ⟨room.r.deeper _, room.g⟩ hsp
  refine wpAny_mono (ht.nox.run [] s1 (start N vs) H _ (inv_start S room.r.hd e0 vl rel made) q) (fun fl s' out => ?_) fun _ _ out => out
  cases fl with
  | ret u => obtain ⟨v, _, H', J, rv, q'⟩ := out; exact ⟨v, H', J.os, J.bare, J.base, J.hok, rv, q'⟩
  | next => obtain ⟨_, H', J, q'⟩ := out; exact ⟨V.non, H', J.os, J.bare, J.base, J.hok, rfl, q'⟩
  | brk => obtain ⟨_, _, _, q'⟩ := out; exact False.elim q'
  | cont => obtain ⟨_, _, _, q'⟩ := out; exact False.elim q'
end
section
variable {X : Cx} {f : Addr} {fd : FuncData} {ps : List Str} {sp : Sp} {k : Nat} {n : Str} {p pos : Pos} {e : Expr} {es : List Expr} {ta : TA}
theorem pe_callG (F : FnG X.prog X.w X.K X.mg X.base k f fd ps sp) (hr : RoomG k X.A) (hg : Gl X n) (hm : X.mg n = some (.ref f)) (hk : PySem.W.keepIn X.K (.ref f) = true) (hb : Binds X.K fd ps [])
    (ha : PA X (e :: es) ta) (hdb : (n == ("__debug__" : Str)) = false := by decide) (he : starEach (e :: es) X.env = (false, eval e X.env) :: starEach es X.env := by rfl) (hpl : (backTo pos (starEach es X.env)).any (·.1) = false := by rfl) :
    PE X (.Call (.Name n p) (e :: es) [] pos) (tCall sp [] E0 ta) := by
  constructor
  intro pins s σ H Q I h
  refine wpAny_Call_Name_kw (ld_glob I hg hm (PySem.W.callWith_K (h₀ := X.base) I.ok.mod.kin hk (thn (ha.run pos pins s σ H _ I h) fun us s1 ⟨vs, H1, I1, rel, q⟩ => ⟨I1.kIn, ?_⟩) he hpl) hdb)
  have q : sp (vs ++ []) H1 Q E0 := q
  rw [List.append_nil] at q
  have hl : us.length = ps.length := by rw [← rel.length]; exact F.len _ _ _ _ q
  have bd := hb s1 us I1.kIn (by rw [List.append_nil]; exact hl)
  rw [List.append_nil] at bd
  refine wpAny_call (codeAny_mono (F.run X.A X.stack s1 H1 ⟨us, []⟩ us vs Q E0 hr I1.env0 bd rel q) fun r s' out => ?_)
  cases r with
  | error x => exact pass0 pins σ H1 s1 x s' I1 out
  | ok fl =>
    cases fl with
    | ret u => exact I1.after out
    | next => exact False.elim out
    | brk => exact False.elim out
    | cont => exact False.elim out
end
section
variable {X : Cx} {f : Addr} {fd : FuncData} {ps : List Str} {sp : Sp} {k : Nat} {n : Str} {p pos : Pos} {e : Expr} {es : List Expr} {Γ Γ1 : List Slot} {as : List Arg} {t : Ty} {x : t.den} {o y y' : Own}
theorem de_call (F : FnG X.prog X.w X.K X.mg X.base k f fd ps sp) (hr : RoomG k X.A) (hm : X.mg n = some (.ref f)) (hk : PySem.W.keepIn X.K (.ref f) = true) (hb : Binds X.K fd ps [])
    (hsp : ∀ vs H Q, Pm0 X.K as (.fr t x) vs H Q E0 → sp vs H Q E0) (ha : DA X (e :: es) Γ as Γ1) (hf : as.all Arg.isFr = true := by rfl)
    (hg : Gl X n := by rfl) (hdb : (n == ("__debug__" : Str)) = false := by decide) (he : starEach (e :: es) X.env = (false, eval e X.env) :: starEach es X.env := by rfl) (hpl : (backTo pos (starEach es X.env)).any (·.1) = false := by rfl) :
    DE X (.Call (.Name n p) (e :: es) [] pos) Γ t x Γ1 := fun Fx G σ H W Q q =>
  wpe_of (pe_callG F hr hg hm hk hb pa_wp hdb he hpl) (ha Fx G σ H W _ fun vs G1 H1 s1 W1 r1 => by
    rw [List.append_nil]
    exact hsp vs H1 Q ⟨G1, W1.gt, argF_of r1 hf, fun v G2 H2 s2 s3 s4 fr r => q v G2 H2 (s1.trans s2) (W1.call s2 s3 s4 fr) r⟩)
theorem do_call (F : FnG X.prog X.w X.K X.mg X.base k f fd ps sp) (hr : RoomG k X.A) (hm : X.mg n = some (.ref f)) (hk : PySem.W.keepIn X.K (.ref f) = true) (hb : Binds X.K fd ps [])
    (hsp : ∀ vs H Q, Pm0 X.K as (.ow o) vs H Q E0 → sp vs H Q E0) (ha : DA X (e :: es) Γ as Γ1) (hf : as.all Arg.isFr = true := by rfl)
    (hg : Gl X n := by rfl) (hdb : (n == ("__debug__" : Str)) = false := by decide) (he : starEach (e :: es) X.env = (false, eval e X.env) :: starEach es X.env := by rfl) (hpl : (backTo pos (starEach es X.env)).any (·.1) = false := by rfl) :
    DO X (.Call (.Name n p) (e :: es) [] pos) Γ o Γ1 := fun Fx G σ H W Q q =>
  wpe_of (pe_callG F hr hg hm hk hb pa_wp hdb he hpl) (ha Fx G σ H W _ fun vs G1 H1 s1 W1 r1 => by
    rw [List.append_nil]
    exact hsp vs H1 Q ⟨G1, W1.gt, argF_of r1 hf, fun v G2 H2 s2 s3 s4 fr r => by
      obtain ⟨a, ho, rfl, h0, h1, h2, h3⟩ := r
      have W2 := W1.call s2 s3 s4 fr
      exact q a ho G2 H2 (s1.trans s2) ⟨W2.len, W2.gh, fun c u e => by
          change upd Fx.T a ho c = some u at e
          by_cases z : c = a
          · subst z; rw [upd_same] at e; rw [h2]; exact sameN_eq e
          · rw [upd_ne z] at e; exact W2.th c u e, fun c u e hn => by
          change upd Fx.T a ho c = some u at e
          by_cases z : c = a
          · subst z; exact h1
          · rw [upd_ne z] at e; exact W2.tg c u e hn, fun i s e => by
          have qq := W1.sl i s e
          have q2 := W2.sl i s e
          cases s with
          | un => exact q2
          | fr t x => exact q2
          | fd o => exact q2
          | mb t x => exact q2
          | ow pin o =>
            obtain ⟨c, ho', e1, e2, e3, e4, e5, e6⟩ := q2
            obtain ⟨c', ho2, d1, d2, d3, d4, d5, d6⟩ := qq
            rw [e1] at d1; cases d1
            have ne : c ≠ a := ne_of_none d4 h0
            exact ⟨c, ho', e1, e2, (by show upd Fx.T a ho c = none; rw [upd_ne ne]; exact e3), e4, e5, e6⟩
          | ns t x => trivial, W2.dj, W1.ns.goN (fun _ _ _ e => ⟨e, rfl⟩) s2 fun c o q1 hn q2 q3 q4 => by
            have ne : c ≠ a := ne_of_none q1 h0
            exact ⟨(s4.1 c o q1).1 hn.2, fr c o q1 hn q2, (by show upd Fx.T a ho c = none; rw [upd_ne ne]; exact q3), q4⟩, W2.tb⟩ (W1.tn h0) h3⟩)
theorem de_callB (i : Nat) {pin : Bool} (F : FnG X.prog X.w X.K X.mg X.base k f fd ps sp) (hr : RoomG k X.A) (hm : X.mg n = some (.ref f)) (hk : PySem.W.keepIn X.K (.ref f) = true) (hb : Binds X.K fd ps [])
    (hsp : ∀ vs H Q, Pm1 X.K y y' as (.fr t x) vs H Q E0 → sp vs H Q E0) (ha : DA X (e :: es) Γ (.bx i :: as) Γ1) (hi : Γ1[i]? = some (.ow pin y) := by rfl) (hf : as.all Arg.isFr = true := by rfl)
    (hg : Gl X n := by rfl) (hdb : (n == ("__debug__" : Str)) = false := by decide) (he : starEach (e :: es) X.env = (false, eval e X.env) :: starEach es X.env := by rfl) (hpl : (backTo pos (starEach es X.env)).any (·.1) = false := by rfl) :
    DE X (.Call (.Name n p) (e :: es) [] pos) Γ t x (Γ1.set i (.ow pin y')) := fun Fx G σ H W Q q =>
  wpe_of (pe_callG F hr hg hm hk hb pa_wp hdb he hpl) (ha Fx G σ H W _ fun vs G1 H1 s1 W1 r1 => by
    rw [List.append_nil]
    cases r1 with
    | @cons v _ vs' _ r r1 =>
      obtain ⟨b, ho, h1, h2, h3, h4, h5, h6⟩ := W1.sl i _ hi
      have r' : σ[i]? = some (some v) := r
      rw [h1] at r'; cases r'
      exact hsp _ H1 Q ⟨G1, b, ho, vs', rfl, W1.gt, h2, h4, h5, argF_of r1 hf, fun v G2 H2 ho' s2 s3 s4 hb' ok fr r => q v G2 H2 (s1.trans s2) (W1.callB hi h1 s2 s3 s4 fr hb' ok) r⟩)
end
end Dn
set_option Elab.async false
set_option linter.all false
set_option maxRecDepth 100000
set_option maxHeartbeats 1000000
namespace Dn
open PySem PySem.Spec PyProof.Rows L2 TL
variable [Tb0]
inductive Lp (S ρ : Type) where
  | go (s : S) | stop (s : S) | ret (x : ρ)
inductive Out (ρ : Type) : Type 1 where
  | nx (Γ : List Slot) | bk (Γ : List Slot) | ct (Γ : List Slot) | rt (x : ρ)
  | br (b : Bool) (o1 o2 : Out ρ)
  | lp {S : Type} (r : Lp S ρ) (k : S → Out ρ)
abbrev RV (ρ : Type) := Fx → Hp → L2.St → Hp → V → ρ → Prop
abbrev RI (ρ : Type) := Fx → Hp → (V → Hp → Prop) → ρ → Prop
def ofV {ρ : Type} (r : RV ρ) : RI ρ := fun F G q x => ∀ v σ H, r F G σ H v x → q v H
def OutOk {ρ : Type} (K : PySem.W.Frag) (R : RI ρ) (F : Fx) (D : Ends) : Hp → Out ρ → Prop
  | G, .nx Γ => ∀ σ G' H, Same G G' → Wd K F G' σ H Γ → D.nx σ H
  | G, .bk Γ => ∀ σ G' H, Same G G' → Wd K F G' σ H Γ → D.bk σ H
  | G, .ct Γ => ∀ σ G' H, Same G G' → Wd K F G' σ H Γ → D.ct σ H
  | G, .rt x => ∀ G', Same G G' → R F G' D.rt x
  | G, .br b o1 o2 => (b = true → OutOk K R F D G o1) ∧ (b = false → OutOk K R F D G o2)
  | G, .lp r k => match r with
    | .go s => OutOk K R F D G (k s)
    | .stop s => OutOk K R F D G (k s)
    | .ret x => ∀ G', Same G G' → R F G' D.rt x
section
variable {ρ : Type} {K : PySem.W.Frag} {R : RI ρ} {F : Fx} {D : Ends}
theorem outOk_mono {G G' : Hp} (e : Same G G') : ∀ {o : Out ρ}, OutOk K R F D G o → OutOk K R F D G' o
  | .nx Γ, h => fun σ G2 H s W => h σ G2 H (e.trans s) W
  | .bk Γ, h => fun σ G2 H s W => h σ G2 H (e.trans s) W
  | .ct Γ, h => fun σ G2 H s W => h σ G2 H (e.trans s) W
  | .rt x, h => fun G2 s => h G2 (e.trans s)
  | .br b o1 o2, h => ⟨fun hb => outOk_mono e (h.1 hb), fun hb => outOk_mono e (h.2 hb)⟩
  | .lp (.go s) k, h => outOk_mono (o := k s) e h
  | .lp (.stop s) k, h => outOk_mono (o := k s) e h
  | .lp (.ret x) k, h => fun G2 s => h G2 (e.trans s)
end
def DSv {ρ : Type} (K : PySem.W.Frag) (R : RI ρ) (ts : TS) (Γ : List Slot) (o : Out ρ) : Prop :=
  ∀ (F : Fx) (G : Hp) (σ : L2.St) (H : Hp), Wd K F G σ H Γ → ∀ D : Ends, OutOk K R F D G o → ts D σ H
abbrev DS (X : Cx) {ρ : Type} (R : RI ρ) (st : Stmt) (Γ : List Slot) (o : Out ρ) : Prop := DSv X.K R (WPS X st) Γ o
abbrev DSs (X : Cx) {ρ : Type} (R : RI ρ) (st : List Stmt) (Γ : List Slot) (o : Out ρ) : Prop := DSv X.K R (WPSs X st) Γ o
def Cont (X : Cx) {ρ : Type} (R : RI ρ) (o : Out ρ) (rest : List Stmt) (o' : Out ρ) : Prop :=
  ∀ (F : Fx) (D : Ends) (G : Hp), OutOk X.K R F D G o' → OutOk X.K R F { D with nx := fun σ H => WPSs X rest D σ H } G o
section
variable {X : Cx} {ρ : Type} {R : RI ρ} {st : Stmt} {rest : List Stmt} {Γ Γ1 Γ2 : List Slot} {o o' o1 o2 o1' o2' : Out ρ}
theorem dss_nil : DSs X R [] Γ (.nx Γ) := fun F G σ H W D h => wpss_of pss_nil (h σ G H (Same.refl G) W)
theorem dss_one (h : DS X R st Γ o) : DSs X R [st] Γ o := fun F G σ H W D q => wpss_of (pss_one ps_wp) (h F G σ H W D q)
theorem dss_cons (h : DS X R st Γ o) (c : Cont X R o rest o') : DSs X R (st :: rest) Γ o' := fun F G σ H W D q => wpss_of (pss_cons ps_wp pss_wp) (h F G σ H W _ (c F D G q))
theorem cont_nx (h : DSs X R rest Γ o) : Cont X R (.nx Γ) rest o := fun F D G q σ G' H s W => h F G' σ H W D (outOk_mono s q)
theorem cont_rt {x : ρ} : Cont X R (.rt x) rest (.rt x) := fun F D G q => q
theorem cont_br {b : Bool} (h1 : b = true → Cont X R o1 rest o1') (h2 : b = false → Cont X R o2 rest o2') : Cont X R (.br b o1 o2) rest (.br b o1' o2') := fun F D G q =>
  ⟨fun hb => h1 hb F D G (q.1 hb), fun hb => h2 hb F D G (q.2 hb)⟩
end
def Ent (K : PySem.W.Frag) (Γ Γ' : List Slot) : Prop := ∀ (F : Fx) (G : Hp) (σ : L2.St) (H : Hp), Wd K F G σ H Γ → ∃ G', Same G G' ∧ Wd K F G' σ H Γ'
inductive Wk : List Slot → List Slot → Prop where
  | nil : Wk [] []
  | eq {s : Slot} {l m : List Slot} (h : Wk l m) : Wk (s :: l) (s :: m)
  | un {s : Slot} {l m : List Slot} (h : Wk l m) : Wk (s :: l) (.un :: m)
theorem Wk.len {l m : List Slot} (h : Wk l m) : l.length = m.length := by
  induction h with
  | nil => rfl
  | eq _ ih => simp [ih]
  | un _ ih => simp [ih]
theorem Wk.get {l m : List Slot} (h : Wk l m) : ∀ (i : Nat) (s : Slot), m[i]? = some s → s = .un ∨ l[i]? = some s := by
  induction h with
  | nil => intro i s e; simp at e
  | eq _ ih => intro i s e; cases i with
    | zero => exact .inr (by simpa using e)
    | succ i => simpa using ih i s (by simpa using e)
  | un _ ih => intro i s e; cases i with
    | zero => exact .inl (by simpa using e.symm)
    | succ i => simpa using ih i s (by simpa using e)
section
variable {K : PySem.W.Frag} {F : Fx} {G G' H H' : Hp} {σ σ' : L2.St} {Γ Γ' Γ2 : List Slot}
theorem Wd.weak (W : Wd K F G σ H Γ) (k : Wk Γ Γ') : Wd K F G σ H Γ' where
  len := W.len.trans k.len
  gh := W.gh
  th := W.th
  tb := W.tb
  tg := W.tg
  sl := fun i s e => by
    rcases k.get i s e with z | z
    · subst z; trivial
    · exact W.sl i s z
  dj := fun i j s s' p ne e1 o1 e2 o2 h1 h2 => by
    rcases k.get i s e1 with z | z
    · subst z; cases o1
    · rcases k.get j s' e2 with y | y
      · subst y; cases o2
      · exact W.dj i j s s' p ne z o1 y o2 h1 h2
  ns := W.ns.go (fun j t x e => by
    rcases k.get j _ e with z | z
    · cases z
    · exact ⟨z, rfl⟩) (Same.refl G) fun a o q1 q2 q3 q4 => ⟨q1, q2, q3, fun j s e o => by
    rcases k.get j s e with z | z
    · subst z; cases o
    · exact q4 j s z o⟩
theorem ent_refl : Ent K Γ Γ := fun F G σ H W => ⟨G, Same.refl G, W⟩
theorem ent_wk (k : Wk Γ Γ') : Ent K Γ Γ' := fun F G σ H W => ⟨G, Same.refl G, W.weak k⟩
theorem ent_frz (i : Nat) {t : Ty} {xs : List t.den} (h : Γ[i]? = some (.ow false (.lst t xs)) := by rfl) : Ent K Γ (Γ.set i (.fr (.lst t) xs)) := fun F G σ H W => by
  obtain ⟨p, vs, h1, h2, h3, r, W'⟩ := W.freezeSlot h
  exact ⟨_, same_upd h2, W'⟩
theorem Wd.setFr {i : Nat} {t : Ty} {x : t.den} {v : V} (W : Wd K F G σ H Γ) (r : Rep K t G v x) : Wd K F G (σ.set i (some v)) H (Γ.set i (.fr t x)) where
  len := by rw [List.length_set, List.length_set]; exact W.len
  gh := W.gh
  th := W.th
  tb := W.tb
  tg := W.tg
  sl := fun j s e => by
    by_cases hj : i = j
    · subst hj
      have il : i < Γ.length := by have := (List.getElem?_eq_some_iff.mp e).1; rwa [List.length_set] at this
      rw [List.getElem?_set_self il] at e; cases e
      exact ⟨v, List.getElem?_set_self (by rw [W.len]; exact il), r⟩
    · rw [List.getElem?_set_ne hj] at e ⊢; exact W.sl j s e
  dj := fun j k s s' p ne e1 o1 e2 o2 h1 h2 => by
    have a : ∀ (j : Nat) (s : Slot), (Γ.set i (.fr t x))[j]? = some s → s.isOw = true → i ≠ j := fun j s e o z => by
      subst z
      have il : i < Γ.length := by have := (List.getElem?_eq_some_iff.mp e).1; rwa [List.length_set] at this
      rw [List.getElem?_set_self il] at e; cases e; cases o
    have b1 := a j s e1 o1
    have b2 := a k s' e2 o2
    rw [List.getElem?_set_ne b1] at e1 h1
    rw [List.getElem?_set_ne b2] at e2 h2
    exact W.dj j k s s' p ne e1 o1 e2 o2 h1 h2
  ns := W.ns.go (fun j t x e => ⟨(set_ns rfl e).2, List.getElem?_set_ne (set_ns rfl e).1⟩) (Same.refl G) fun a o q1 q2 q3 q4 => ⟨q1, q2, q3, fun j s e o => by
    have := set_ow rfl e o
    rw [List.getElem?_set_ne this.1]
    exact q4 j s this.2 o⟩
theorem Wd.setOw {i : Nat} {o : Own} {p : Addr} {ho : HO} (W : Wd K { F with T := upd F.T p ho } G σ H Γ) (hT : F.T p = none) (ok : OwnOk K G ho o) : Wd K F G (σ.set i (some (.ref p))) H (Γ.set i (.ow false o)) := by
  have W0 := W.drop hT
  have held := W.held (own_nt ok)
  have np : ∀ (j : Nat) (s : Slot), Γ[j]? = some s → s.isOw = true → σ[j]? ≠ some (some (.ref p)) := fun j s e o z => by
    cases s with
    | ow pin o' =>
      obtain ⟨a, ho', h1, h2, h3, _⟩ := W.sl j _ e
      rw [z] at h1; cases h1
      have h3' : upd F.T p ho p = none := h3
      rw [upd_same] at h3'; cases h3'
    | _ => cases o
  refine ⟨by rw [List.length_set, List.length_set]; exact W.len, W.gh, W0.th, W0.tg, fun j s e => ?_, fun j k s s' q ne e1 o1 e2 o2 h1 h2 => ?_, W.ns.go (fun j t x e => ⟨(set_ns rfl e).2, List.getElem?_set_ne (set_ns rfl e).1⟩) (Same.refl G) (fun a ho' q1 q2 q3 q4 => ?_), W.tb⟩
  · by_cases hj : i = j
    · subst hj
      have il : i < Γ.length := by have := (List.getElem?_eq_some_iff.mp e).1; rwa [List.length_set] at this
      rw [List.getElem?_set_self il] at e; cases e
      exact ⟨p, ho, List.getElem?_set_self (by rw [W.len]; exact il), held.2, hT, held.1, ok, fun z => by cases z⟩
    · rw [List.getElem?_set_ne hj] at e ⊢; exact W0.sl j s e
  · by_cases hj : i = j
    · subst hj
      have hk : i ≠ k := ne
      have il : i < Γ.length := by have := (List.getElem?_eq_some_iff.mp e1).1; rwa [List.length_set] at this
      rw [List.getElem?_set_self (by rw [W.len]; exact il)] at h1
      cases h1
      rw [List.getElem?_set_ne hk] at e2 h2
      exact np k s' e2 o2 h2
    · by_cases hk : i = k
      · subst hk
        have il : i < Γ.length := by have := (List.getElem?_eq_some_iff.mp e2).1; rwa [List.length_set] at this
        rw [List.getElem?_set_self (by rw [W.len]; exact il)] at h2
        cases h2
        rw [List.getElem?_set_ne hj] at e1 h1
        exact np j s e1 o1 h1
      · rw [List.getElem?_set_ne hj] at e1 h1
        rw [List.getElem?_set_ne hk] at e2 h2
        exact W.dj j k s s' q ne e1 o1 e2 o2 h1 h2
  · have q3' : upd F.T p ho a = none := q3
    have ne : a ≠ p := fun z => by subst z; rw [upd_same] at q3'; cases q3'
    rw [upd_ne ne] at q3'
    refine ⟨q1, q2, q3', fun j s e o => ?_⟩
    rcases set_get e with ⟨rfl, _, il⟩ | ⟨hj, e⟩
    · rw [List.getElem?_set_self (by rw [W.len]; exact il)]
      intro z; cases z; exact ne rfl
    · rw [List.getElem?_set_ne hj]; exact q4 j s e o
end
section
variable {X : Cx} {Γ Γ1 Γ2 : List Slot} {e : Expr} {pos pos' : Pos} {t : Ty} {x : t.den} {o : Own} {n : Str}
variable {ρ : Type} {R : RI ρ}
theorem ds_set (i : Nat) (he : DE X e Γ t x Γ1) (hN : X.N.Nodup) (hi : X.N[i]? = some n := by rfl) (hx : Loc X.env.scope n := by first | exact Or.inl rfl | exact Or.inr rfl) (hs : swapsWith e (some (.Name n pos')) pos.line X.env = pure false := by rfl) (hf : X.fn n = true ∨ X.env.scope.names.lookup n = some .local := by first | exact .inl rfl | exact .inr rfl) :
    DS X R (.Assign [.Name n pos'] e pos) Γ (.nx (Γ1.set i (.fr t x))) := fun F G σ H W D q =>
  wps_of (ps_set hN hi hx pe_wp hs hf) (he F G σ H W _ fun v G' H' s W' r => q _ G' H' s (W'.setFr r))
theorem ds_setO (i : Nat) (he : DO X e Γ o Γ1) (hN : X.N.Nodup) (hi : X.N[i]? = some n := by rfl) (hx : Loc X.env.scope n := by first | exact Or.inl rfl | exact Or.inr rfl) (hs : swapsWith e (some (.Name n pos')) pos.line X.env = pure false := by rfl) (hf : X.fn n = true ∨ X.env.scope.names.lookup n = some .local := by first | exact .inl rfl | exact .inr rfl) :
    DS X R (.Assign [.Name n pos'] e pos) Γ (.nx (Γ1.set i (.ow false o))) := fun F G σ H W D q =>
  wps_of (ps_set hN hi hx pe_wp hs hf) (he F G σ H W _ fun p ho G' H' s W' hT ok => q _ G' H' s (W'.setOw hT ok))
theorem ds_if {b : Bool} {c : Expr} {s1 s2 : List Stmt} {o1 o2 : Out ρ} (hc : DT X c Γ b Γ1) (h1 : b = true → DSs X R s1 Γ1 o1) (h2 : b = false → DSs X R s2 Γ1 o2) : DS X R (.If c s1 s2 pos) Γ (.br b o1 o2) := fun F G σ H W D q =>
  wps_of (ps_if pt_wp pss_wp pss_wp) (hc F G σ H W _ fun G' H' s W' => by
    cases b with
    | true => rw [if_pos rfl]; exact h1 rfl F G' σ H' W' D (outOk_mono s (q.1 rfl))
    | false => rw [if_neg Bool.false_ne_true]; exact h2 rfl F G' σ H' W' D (outOk_mono s (q.2 rfl)))
inductive Nx (K : PySem.W.Frag) {S : Type} (Γs : S → List Slot) {ρ : Type} : Out ρ → S → Prop where
  | nx {Γ : List Slot} {s : S} (h : Ent K Γ (Γs s)) : Nx K Γs (.nx Γ) s
  | br {b : Bool} {o1 o2 : Out ρ} {s1 s2 : S} (h1 : b = true → Nx K Γs o1 s1) (h2 : b = false → Nx K Γs o2 s2) : Nx K Γs (.br b o1 o2) (bif b then s1 else s2)
theorem nx_ok {K : PySem.W.Frag} {S : Type} {Γs : S → List Slot} {o : Out ρ} {s : S} {F : Fx} {D : Ends} {G : Hp} (h : Nx K Γs o s) (q : OutOk K R F D G (.nx (Γs s))) : OutOk K R F D G o := by
  induction h with
  | nx h =>
    intro σ G' H sg W
    obtain ⟨G2, s2, W2⟩ := h F G' σ H W
    exact q σ G2 H (sg.trans s2) W2
  | @br b o1 o2 s1 s2 h1 h2 ih1 ih2 =>
    refine ⟨fun hb => ?_, fun hb => ?_⟩
    · subst hb; exact ih1 rfl q
    · subst hb; exact ih2 rfl q
theorem ds_join {S : Type} (Γs : S → List Slot) {st : Stmt} {o : Out ρ} {s : S} (h : DS X R st Γ o) (k : Nx X.K Γs o s) : DS X R st Γ (.nx (Γs s)) := fun F G σ H W D q => h F G σ H W D (nx_ok k q)
end
def riF (K : PySem.W.Frag) (t : Ty) : RI t.den := ofV fun F G σ H v x => (∃ Γ, Wd K F G σ H Γ) ∧ Rep K t G v x
def riB (K : PySem.W.Frag) (t : Ty) : RI (t.den × List Int) := ofV fun F G σ H v x => (∃ Γ, Wd K F G σ H Γ ∧ Γ[0]? = some (.ow true (.lst .int x.2))) ∧ Rep K t G v x.1
def riO (K : PySem.W.Frag) (t : Ty) : RI (List t.den) := ofV fun F G σ H v x => ∃ p ho, v = .ref p ∧ F.T p = none ∧ OwnOk K G ho (.lst t x) ∧ ∃ Γ, Wd K { F with T := upd F.T p ho } G σ H Γ
def riOB (K : PySem.W.Frag) (t : Ty) : RI (List t.den × List Int) := ofV fun F G σ H v x => ∃ p ho, v = .ref p ∧ F.T p = none ∧ OwnOk K G ho (.lst t x.1) ∧ ∃ Γ, Wd K { F with T := upd F.T p ho } G σ H Γ ∧ Γ[0]? = some (.ow true (.lst .int x.2))
section
variable {X : Cx} {Γ Γ1 Γ2 : List Slot} {e : Expr} {pos pos' : Pos} {t : Ty} {x : t.den}
theorem ds_ret (he : DE X e Γ t x Γ1) : DS X (riF X.K t) (.Return (some e) pos) Γ (.rt x) := fun F G σ H W D q =>
  wps_of (ps_ret pe_wp) (he F G σ H W _ fun v G' H' s W' r => q G' s v σ H' ⟨⟨_, W'⟩, r⟩)
theorem ds_retB {y : List Int} (he : DE X e Γ t x Γ1) (h0 : Γ1[0]? = some (.ow true (.lst .int y)) := by rfl) : DS X (riB X.K t) (.Return (some e) pos) Γ (.rt (x, y)) := fun F G σ H W D q =>
  wps_of (ps_ret pe_wp) (he F G σ H W _ fun v G' H' s W' r => q G' s v σ H' ⟨⟨_, W', h0⟩, r⟩)
theorem ds_retO {xs : List t.den} (he : DO X e Γ (.lst t xs) Γ1) : DS X (riO X.K t) (.Return (some e) pos) Γ (.rt xs) := fun F G σ H W D q =>
  wps_of (ps_ret pe_wp) (he F G σ H W _ fun p ho G' H' s W' hT ok => q G' s (.ref p) σ H' ⟨p, ho, rfl, hT, ok, _, W'⟩)
end
def Out.Rets {ρ : Type} : Out ρ → Prop
  | .rt _ => True
  | .br _ o1 o2 => o1.Rets ∧ o2.Rets
  | .lp _ k => ∀ s, (k s).Rets
  | _ => False
def Lp.fin {S ρ : Type} (r : Lp S ρ) (k : S → ρ) : ρ := match r with
  | .go s => k s
  | .stop s => k s
  | .ret x => x
def Out.val {ρ : Type} (d : ρ) : Out ρ → ρ
  | .rt x => x
  | .br b o1 o2 => bif b then o1.val d else o2.val d
  | .lp r k => r.fin fun s => (k s).val d
  | _ => d
theorem out_end {ρ : Type} {K : PySem.W.Frag} {R : RI ρ} {F : Fx} {D : Ends} {G : Hp} {d : ρ} : ∀ {o : Out ρ}, o.Rets → (∀ G', Same G G' → R F G' D.rt (o.val d)) → OutOk K R F D G o
  | .rt x, _, h => h
  | .br b o1 o2, r, h => ⟨fun hb => out_end r.1 (by subst hb; exact h), fun hb => out_end r.2 (by subst hb; exact h)⟩
  | .lp (.go s) k, r, h => out_end (o := k s) (r s) h
  | .lp (.stop s) k, r, h => out_end (o := k s) (r s) h
  | .lp (.ret x) k, _, h => h
  | .nx _, r, _ => r.elim
  | .bk _, r, _ => r.elim
  | .ct _, r, _ => r.elim
def Arg.slot : Arg → Slot
  | .fr t x => .fr t x
  | .fd o => .fd o
  | _ => .un
def besides (G H : Hp) : Hp := fun c => match G c with
  | none => H c
  | some _ => none
theorem besides_some {G H : Hp} {c : Addr} {o : HO} (h : besides G H c = some o) : H c = some o ∧ G c = none := by
  unfold besides at h
  cases e : G c with
  | none => rw [e] at h; exact ⟨h, rfl⟩
  | some u => rw [e] at h; cases h
theorem besides_of {G H : Hp} {c : Addr} (h : G c = none) : besides G H c = H c := by
  unfold besides
  rw [h]
theorem sameN_bes {G H : Hp} : SameN (besides G H) H := fun _ _ e => sameN_self (besides_some e).1
theorem keep_end {G G' H H' : Hp} (sg : Same G H) (s1 : Same G G') (gh : Same G' H') (th : SameN (besides G H) H') : SameN H H' := fun c u e => by
  cases g : G c with
  | none => exact th c u ((besides_of g).trans e)
  | some z => rw [sg c z g] at e; cases e; exact sameN_self (gh c _ (s1 c _ g))
theorem args_slots {K : PySem.W.Frag} {F : Fx} {G H : Hp} {vs : List V} {as : List Arg} {m : Nat} (h : Paired (ArgF K G) vs as) :
    ∀ (i : Nat) (s : Slot), (as.map Arg.slot ++ List.replicate m Slot.un)[i]? = some s → SlotOk K F G H ((vs.map some ++ List.replicate m (none : Option V))[i]?) s ∧ s.isOw = false := by
  induction h with
  | nil =>
    intro i s e
    have : s = .un := by
      simp only [List.map_nil, List.nil_append] at e
      have := List.mem_of_getElem? e
      exact List.eq_of_mem_replicate this
    subst this; exact ⟨trivial, rfl⟩
  | @cons v a _ _ r _ ih =>
    intro i s e
    cases i with
    | zero =>
      simp at e
      subst e
      cases a with
      | fr t x => exact ⟨⟨v, by simp, r⟩, rfl⟩
      | fd o => exact ⟨⟨v, by simp, r⟩, rfl⟩
      | _ => exact False.elim r
    | succ i =>
      have := ih i s (by simpa using e)
      simpa using this
theorem args_ns {as : List Arg} {m : Nat} {i : Nat} {s : Slot} (e : (as.map Arg.slot ++ List.replicate m Slot.un)[i]? = some s) : s.isNs = false := by
  rcases List.mem_append.mp (List.mem_of_getElem? e) with h | h
  · obtain ⟨a, _, rfl⟩ := List.mem_map.mp h
    cases a <;> rfl
  · rw [List.eq_of_mem_replicate h]; rfl
theorem start_len {N : List Str} {vs : List V} : L2.start N vs = vs.map some ++ List.replicate (N.length - vs.length) none := rfl
section
variable {X : Cx} {N : List Str} {body : List Stmt} {as : List Arg} {vs : List V} {H : Hp} {Q : VK} {E : XK} {Γ0 : List Slot}
theorem body_F {t : Ty} {o : Out t.den} {d : t.den} (hb : DSs X (riF X.K t) body Γ0 o) (ho : o.Rets) (hp : Pm0 X.K as (.fr t (o.val d)) vs H Q E) (hΓ : Γ0 = as.map Arg.slot ++ List.replicate (N.length - as.length) .un := by rfl) (hl : as.length ≤ N.length := by exact Nat.le_of_ble_eq_true rfl) :
    WPSs X body { nx := fun _ H' => Q .non H', rt := Q } (L2.start N vs) H := by
  obtain ⟨G, sg, pr, k⟩ := hp
  have el := pair_len pr
  have ss := args_slots (F := ⟨besides G H, 0⟩) (H := H) (m := N.length - as.length) pr
  refine hb ⟨besides G H, 0⟩ G (L2.start N vs) H ⟨?_, sg.1, sameN_bes, fun c u e _ => (besides_some e).2, fun i s e => ?_, fun i j s s' p ne e1 o1 => ?_, NsOk.no (fun i s e => by rw [hΓ] at e; exact args_ns e), sg.2⟩ _ (out_end (d := d) ho fun G' s1 v σ H' r => ?_)
  · rw [hΓ, start_len]; simp [el]
  · rw [hΓ] at e; rw [start_len, el]; exact (ss i s e).1
  · rw [hΓ] at e1; rw [(ss i s e1).2] at o1; cases o1
  · obtain ⟨⟨Γ, W⟩, r⟩ := r
    refine k v G' H' s1 W.gh ⟨keep_end sg.1 s1 W.gh W.th, W.tb⟩ (fun c u e hn n => ?_) r
    · exact W.tg c u ((besides_of n).trans e) hn
theorem body_O {t : Ty} {o : Out (List t.den)} {d : List t.den} (hb : DSs X (riO X.K t) body Γ0 o) (ho : o.Rets) (hp : Pm0 X.K as (.ow (.lst t (o.val d))) vs H Q E) (hΓ : Γ0 = as.map Arg.slot ++ List.replicate (N.length - as.length) .un := by rfl) (hl : as.length ≤ N.length := by exact Nat.le_of_ble_eq_true rfl) :
    WPSs X body { nx := fun _ H' => Q .non H', rt := Q } (L2.start N vs) H := by
  obtain ⟨G, sg, pr, k⟩ := hp
  have el := pair_len pr
  have ss := args_slots (F := ⟨besides G H, 0⟩) (H := H) (m := N.length - as.length) pr
  refine hb ⟨besides G H, 0⟩ G (L2.start N vs) H ⟨?_, sg.1, sameN_bes, fun c u e _ => (besides_some e).2, fun i s e => ?_, fun i j s s' p ne e1 o1 => ?_, NsOk.no (fun i s e => by rw [hΓ] at e; exact args_ns e), sg.2⟩ _ (out_end (d := d) ho fun G' s1 v σ H' r => ?_)
  · rw [hΓ, start_len]; simp [el]
  · rw [hΓ] at e; rw [start_len, el]; exact (ss i s e).1
  · rw [hΓ] at e1; rw [(ss i s e1).2] at o1; cases o1
  · obtain ⟨p, hop, rfl, hT, ok, Γ, W⟩ := r
    have W0 := W.drop hT
    have hd := W.held (own_nt ok)
    have pn : H p = none := by
      have hT' : besides G H p = none := hT
      cases g : G p with
      | none => rw [besides_of g] at hT'; exact hT'
      | some z => rw [s1 p z g] at hd; cases hd.2
    refine k (.ref p) G' H' s1 W.gh ⟨keep_end sg.1 s1 W.gh W0.th, W.tb⟩ (fun c u e hn n => ?_) ⟨p, hop, rfl, pn, hd.2, hd.1, ok⟩
    · exact W0.tg c u ((besides_of n).trans e) hn
def but (H : Hp) (b : Addr) : Hp := fun c => if c = b then none else H c
theorem but_some {H : Hp} {b c : Addr} {o : HO} (h : but H b c = some o) : H c = some o ∧ c ≠ b := by
  unfold but at h
  split at h
  · cases h
  · rename_i ne; exact ⟨h, ne⟩
theorem box_start {K : PySem.W.Frag} {G : Hp} {b : Addr} {ho : HO} {y : Own} {vs' : List V} (sg : Same G H ∧ TbOk G H) (gb : G b = none) (hb : H b = some ho) (ok : OwnOk K G ho y) (pr : Paired (ArgF K G) vs' as) (hΓ : Γ0 = .ow true y :: (as.map Arg.slot ++ List.replicate (N.length - (as.length + 1)) .un)) (hl : as.length + 1 ≤ N.length) :
    Wd K ⟨but (besides G H) b, b⟩ G (L2.start N (.ref b :: vs')) H Γ0 := by
  have el := pair_len pr
  have ss := args_slots (F := ⟨but (besides G H) b, b⟩) (H := H) (m := N.length - (as.length + 1)) pr
  have es : L2.start N (.ref b :: vs') = some (.ref b) :: (vs'.map some ++ List.replicate (N.length - (as.length + 1)) none) := by
    unfold L2.start
    rw [List.length_cons, el]
    rfl
  have nob : ∀ (j : Nat) (s : Slot), Γ0[j + 1]? = some s → s.isOw = false := fun j s e => by
    rw [hΓ] at e
    exact (ss j s (by simpa using e)).2
  refine ⟨?_, sg.1, fun c u e => sameN_self (besides_some (but_some e).1).1, fun c u e _ => (besides_some (but_some e).1).2, fun i s e => ?_, fun i j s s' p ne e1 o1 e2 o2 => ?_, NsOk.no (fun i s e => by
    rw [hΓ] at e
    cases i with
    | zero => simp at e; subst e; rfl
    | succ i => exact args_ns (by simpa using e)), sg.2⟩
  · rw [hΓ, es]; simp [el]
  · rw [hΓ] at e
    rw [es]
    cases i with
    | zero =>
      simp at e
      subst e
      refine ⟨b, ho, by simp, gb, ?_, hb, ok, fun _ => rfl⟩
      show but (besides G H) b b = none
      unfold but; rw [if_pos rfl]
    | succ i =>
      have := (ss i s (by simpa using e)).1
      simpa using this
  · cases i with
    | zero => cases j with
      | zero => exact absurd rfl ne
      | succ j => rw [nob j s' e2] at o2; cases o2
    | succ i => rw [nob i s e1] at o1; cases o1
theorem but_keep {G G' H' : Hp} {b c : Addr} {u : HO} (sg : Same G H) (s1 : Same G G') (gh : Same G' H') (th : SameN (but (besides G H) b) H') (nb : c ≠ b) (e : H c = some u) : (NB u → H' c = some u) ∧ H' c ≠ none := by
  cases g : G c with
  | none =>
    refine th c u ?_
    unfold but; rw [if_neg nb, besides_of g]; exact e
  | some z => rw [sg c z g] at e; cases e; exact sameN_self (gh c _ (s1 c _ g))
theorem body_B {t : Ty} {y : List Int} {o : Out (t.den × List Int)} {d : t.den × List Int} (hb : DSs X (riB X.K t) body Γ0 o) (ho : o.Rets) (hp : Pm1 X.K (.lst .int y) (.lst .int (o.val d).2) as (.fr t (o.val d).1) vs H Q E) (hΓ : Γ0 = .ow true (.lst .int y) :: (as.map Arg.slot ++ List.replicate (N.length - (as.length + 1)) .un) := by rfl) (hl : as.length + 1 ≤ N.length := by exact Nat.le_of_ble_eq_true rfl) :
    WPSs X body { nx := fun _ H' => Q .non H', rt := Q } (L2.start N vs) H := by
  obtain ⟨G, b, ho, vs', rfl, sg, gb, hb', ok, pr, k⟩ := hp
  have W0 := box_start (N := N) sg gb hb' ok pr hΓ hl
  refine hb _ G _ H W0 _ (out_end (d := d) ‹_› fun G' s1 v σ H' r => ?_)
  obtain ⟨⟨Γ, W, h0⟩, r⟩ := r
  obtain ⟨a, ha, e1, e2, e3, e4, e5, e6⟩ := W.sl 0 _ h0
  have ab : a = b := e6 rfl
  subst ab
  refine k v G' H' ha s1 W.gh ⟨fun c u nb e => but_keep sg.1 s1 W.gh W.th nb e, W.tb⟩ e4 e5 (fun c u e hn n => ?_) r
  by_cases z : c = a
  · subst z; exact e2
  · refine W.tg c u ?_ hn
    show but (besides G H) a c = some u
    unfold but; rw [if_neg z, besides_of n]; exact e
end
end Dn
set_option Elab.async false
set_option linter.all false
set_option maxRecDepth 100000
set_option maxHeartbeats 1000000
namespace Dn
open PySem PySem.Spec PyProof.Rows L2 TL
variable [Tb0]
@[irreducible] def WPG (X : Cx) (tg : Expr) : TG := fun v σ H Q => ∀ (pins : List (Addr × Obj)) (s : Shared) (u : Value), Inv X pins σ H s → RelV v u → wpAny (model X.prog X.w) X.A (assign tg X.env u) (fun _ s' => ∃ σ' H', Inv X pins σ' H' s' ∧ Q σ' H') X.xe s
def At' (tgs : List Nat) (σ σ' : L2.St) : Prop := σ'.length = σ.length ∧ ∀ i, i ∉ tgs → σ'[i]? = σ[i]?
theorem at_refl {tgs : List Nat} {σ : L2.St} : At' tgs σ σ := ⟨rfl, fun _ _ => rfl⟩
theorem at_set {i : Nat} {v : Option V} {σ : L2.St} : At' [i] σ (σ.set i v) := ⟨by simp, fun j h => by
  have : i ≠ j := fun z => h (by simp [z])
  rw [List.getElem?_set_ne this]⟩
theorem at_trans {a b : List Nat} {σ σ1 σ2 : L2.St} (h1 : At' a σ σ1) (h2 : At' b σ1 σ2) : At' (a ++ b) σ σ2 := ⟨h2.1.trans h1.1, fun i h => by
  rw [List.mem_append, not_or] at h
  exact (h2.2 i h.2).trans (h1.2 i h.1)⟩
def EvG (K : PySem.W.Frag) (g : TG) (t : Ty) (B : t.den → List Slot → List Slot) (tgs : List Nat) : Prop :=
  ∀ (F : Fx) (G : Hp) (σ : L2.St) (H : Hp) (Γ : List Slot) (v : V) (x : t.den), Wd K F G σ H Γ → Rep K t G v x → ∀ Q : L2.St → Hp → Prop, (∀ σ', At' tgs σ σ' → Wd K F G σ' H (B x Γ) → Q σ' H) → g v σ H Q
def EvGs (K : PySem.W.Frag) (g : TGs) : (ts : List Ty) → (tgs : List Nat) → Prop := fun ts tgs => ts.length = tgs.length ∧
  ∀ (F : Fx) (G : Hp) (σ : L2.St) (H : Hp) (Γ : List Slot) (vs : List V) (as : List Arg), Wd K F G σ H Γ → Paired (ArgF K G) vs as → as.map (fun a => match a with | .fr t _ => some t | _ => none) = ts.map some → ∀ Q : L2.St → Hp → Prop,
    (∀ σ', At' tgs σ σ' → Wd K F G σ' H ((tgs.zip as).foldl (fun Γ p => Γ.set p.1 p.2.slot) Γ) → Q σ' H) → g vs σ H Q
section
variable {X : Cx} {pos : Pos} {n : Str} {es : List Expr} {t A B C D : Ty}
theorem eg_name (i : Nat) (t : Ty) : EvG X.K (gName i) t (fun x Γ => Γ.set i (.fr t x)) [i] := fun F G σ H Γ v x W r Q q => q _ at_set (W.setFr r)
theorem egs_nil : EvGs X.K gNil [] [] := ⟨rfl, fun F G σ H Γ vs as W p e Q q => by
  cases as with
  | nil => cases p; exact ⟨rfl, q σ at_refl W⟩
  | cons a r => cases e⟩
theorem egs_cons {g : TGs} {ts : List Ty} {tgs : List Nat} (i : Nat) (t : Ty) (h : EvGs X.K g ts tgs) : EvGs X.K (gCons (gName i) g) (t :: ts) (i :: tgs) := ⟨by simp [h.1], fun F G σ H Γ vs as W p e Q q => by
  cases p with
  | nil => cases e
  | @cons v a vs as r p =>
    simp only [List.map_cons, List.cons.injEq] at e
    cases a with
    | fr t' x =>
      refine ⟨v, vs, rfl, ?_⟩
      exact h.2 F G _ H _ vs as (W.setFr r) p e.2 Q fun σ' a' W' => q σ' (by simpa using at_trans at_set a') W'
    | fd o => exact absurd e.1 (by simp)
    | _ => exact False.elim r⟩
theorem eg_2 (i j : Nat) (A B : Ty) : EvG X.K (gTup X.K 2 (gCons (gName i) (gCons (gName j) gNil))) (.p2 A B) (fun x Γ => (Γ.set i (.fr A x.1)).set j (.fr B x.2)) [i, j] := fun F G σ H Γ v x W r Q q => by
  obtain ⟨p, v1, v2, rfl, h1, h2, h3⟩ := r
  refine ⟨p, [v1, v2], rfl, sqt_mono W.gh (tT h1), rfl, ?_⟩
  exact (egs_cons i A (egs_cons j B egs_nil)).2 F G σ H Γ [v1, v2] [.fr A x.1, .fr B x.2] W (.cons h2 (.cons h3 .nil)) rfl Q q
end
structure ItOk (K : PySem.W.Frag) (J : It) (g : TG) (G : Hp) {α : Type} (ys : List α) (B : α → List Slot → List Slot) (tgs : List Nat) : Prop where
  go : ∀ i G2 H2, Same G G2 → Same G2 H2 → i < ys.length → J.go i H2
  stop : ∀ G2 H2, Same G G2 → Same G2 H2 → J.stop ys.length H2
  yld : ∀ (F : Fx) i y G2 σ2 H2 Γ2 v H3 (Q : L2.St → Hp → Prop), Same G G2 → Wd K F G2 σ2 H2 Γ2 → ys[i]? = some y → J.yld i H2 v H3 → (∀ G3 σ3 H4, Same G2 G3 → At' tgs σ2 σ3 → Wd K F G3 σ3 H4 (B y Γ2) → Q σ3 H4) → g v σ2 H3 Q
def EvI (K : PySem.W.Frag) (wi : TI) (g : TG) (Γ : List Slot) {α : Type} (ys : List α) (B : α → List Slot → List Slot) (tgs : List Nat) (Γ' : List Slot) : Prop :=
  ∀ (F : Fx) (G : Hp) (σ : L2.St) (H : Hp), Wd K F G σ H Γ → ∀ R : It → Hp → Prop, (∀ J G' H', Same G G' → Wd K F G' σ H' Γ' → ItOk K J g G' ys B tgs → R J H') → wi σ H R
@[irreducible] def WPI (X : Cx) (tg iter : Expr) : TI := fun σ H R => ∀ (pins : List (Addr × Obj)) (s : Shared), Inv X pins σ H s → wpAny (model X.prog X.w) X.A (eval iter X.env) (fun v s1 => wpAny (model X.prog X.w) X.A (pyIter v) (PIE X pins σ tg R) X.xe s1) X.xe s
theorem pi_wp {X : Cx} {tg iter : Expr} : PI X tg iter (WPI X tg iter) := by with_unfolding_all exact ⟨fun pins s σ H R I h => h pins s I⟩
theorem wpi_of {X : Cx} {tg iter : Expr} {wi : TI} {σ : L2.St} {H : Hp} {R : It → Hp → Prop} (p : PI X tg iter wi) (h : wi σ H R) : WPI X tg iter σ H R := by with_unfolding_all exact fun pins s I => p.run pins s σ H R I h
abbrev DI (X : Cx) (tg iter : Expr) (g : TG) (Γ : List Slot) {α : Type} (ys : List α) (B : α → List Slot → List Slot) (tgs : List Nat) (Γ' : List Slot) : Prop := EvI X.K (WPI X tg iter) g Γ ys B tgs Γ'
@[irreducible] def rng (lo hi : Int) : List Int := (List.range (hi - lo).toNat).map fun (k : Nat) => lo + (k : Int)
theorem rng_len {lo hi : Int} : (rng lo hi).length = (hi - lo).toNat := by simp [rng]
theorem rng_get {lo hi : Int} {i : Nat} {y : Int} (h : (rng lo hi)[i]? = some y) : y = lo + (i : Int) := by
  unfold rng at h
  rw [List.getElem?_map] at h
  cases e : (List.range (hi - lo).toNat)[i]? with
  | none => rw [e] at h; cases h
  | some k =>
    rw [e] at h
    have := List.getElem?_range (n := (hi - lo).toNat) (i := i) (by have := (List.getElem?_eq_some_iff.mp e).1; simpa using this)
    rw [this] at e; cases e
    exact (Option.some.inj h).symm
@[irreducible] def chars (x : List Nat) : List (List Nat) := x.map fun c => [c]
section
variable {X : Cx} {tg e a b : Expr} {pos p tpos : Pos} {Γ Γ1 Γ2 : List Slot} {t : Ty} {xs : List t.den} {g : TG} {B : t.den → List Slot → List Slot} {tgs : List Nat}
theorem di_list (he : DE X e Γ (.lst t) xs Γ1) (hg : EvG X.K g t B tgs) : DI X tg e g Γ xs B tgs Γ1 := fun F G σ H W R q =>
  wpi_of (pi_list pe_wp) (he F G σ H W _ fun v G' H' s W' r => by
    obtain ⟨a, vs, rfl, h1, h2⟩ := r
    have el := pair_len h2
    refine ⟨a, rfl, ⟨vs, .inl (rd_mono W'.gh h1)⟩, q _ G' H' s W' ⟨fun i G2 H2 s1 s2 hi => ?_, fun G2 H2 s1 s2 => ⟨vs, (.inl (rd_mono (s1.trans s2) h1)), Nat.le_of_eq el⟩, fun F i y G2 σ2 H2 Γ2 v H3 Q s1 W2 hy y' k => ?_⟩⟩
    · exact ⟨vs, vs[i]'(by omega), (.inl (rd_mono (s1.trans s2) h1)), List.getElem?_eq_getElem (by omega)⟩
    · obtain ⟨e1, e2⟩ := y'
      subst e1
      have e3 := e2 vs (.inl (rd_mono (s1.trans W2.gh) h1))
      obtain ⟨v', e4, e5⟩ := pair_get h2 hy
      rw [e3] at e4; cases e4
      exact hg F G2 σ2 _ Γ2 v y W2 (rep_mono s1 t v y e5) Q fun σ' a' W3 => k G2 σ' _ (Same.refl G2) a' W3)
def RngOk (i : Int) : Prop := -1000000 ≤ i ∧ i ≤ 1000000
theorem it_range {K : PySem.W.Frag} {lo hi : Int} {G : Hp} {B : Int → List Slot → List Slot} (hg : EvG K g .int B tgs) : ItOk K (Itr lo (hi - lo).toNat) g G (rng lo hi) B tgs where
  go := fun i G2 H2 _ _ h => by rw [rng_len] at h; exact h
  stop := fun G2 H2 _ _ => by rw [rng_len]; exact Nat.le_refl _
  yld := fun F i y G2 σ2 H2 Γ2 v H3 Q s1 W2 hy y' k => by
    obtain ⟨e1, e2⟩ := y'
    subst e1
    have := rng_get hy
    subst this
    subst e2
    exact hg F G2 σ2 _ Γ2 _ _ W2 rfl Q fun σ' a' W3 => k G2 σ' _ (Same.refl G2) a' W3
theorem di_range1 {n : Int} {B : Int → List Slot → List Slot} (hm : X.mg "range" = none) (h : RngOk n) (ha : DE X a Γ .int n Γ1) (hg : EvG X.K g .int B tgs) (hgl : Gl X "range" := by rfl) (hs : starEach [a] X.env = [(false, eval a X.env)] := by rfl) :
    DI X tg (.Call (.Name "range" p) [a] [] pos) g Γ (rng 0 n) B tgs Γ1 := fun F G σ H W R q =>
  wpi_of (pi_range1 hgl hm pa_wp hs) ((da_cons ha da_nil (by rw [hs]; rfl)) F G σ H W _ fun vs G' H' s W' r => by
    cases r with
    | @cons v _ _ _ r r' =>
      cases r'
      have r : v = .int n := r
      subst r
      obtain ⟨h1, h2⟩ := h
      refine ⟨n, rfl, by omega, by omega, ?_⟩
      have := q (Itr 0 (n - 0).toNat) G' H' s W' (it_range hg)
      simpa using this)
def enum {α : Type} (xs : List α) : List (Int × α) := xs.zipIdx.map fun p => ((p.2 : Int), p.1)
theorem enum_get {α : Type} {xs : List α} {i : Nat} {y : Int × α} (h : (enum xs)[i]? = some y) : y.1 = (i : Int) ∧ xs[i]? = some y.2 := by
  unfold enum at h
  rw [List.getElem?_map, List.getElem?_zipIdx] at h
  cases e : xs[i]? with
  | none => rw [e] at h; cases h
  | some x => rw [e] at h; cases h; simp
theorem enum_len {α : Type} {xs : List α} : (enum xs).length = xs.length := by simp [enum]
theorem di_enumL {elts : List Expr} {kk : Nat} {B : Int × t.den → List Slot → List Slot} (hm : X.mg "enumerate" = none) (he : DE X e Γ (.lst t) xs Γ1) (hg : EvG X.K g (.p2 .int t) B tgs) (hgl : Gl X "enumerate" := by rfl) (hs : starEach [e] X.env = [(false, eval e X.env)] := by rfl) :
    DI X (.Tuple elts kk tpos) (.Call (.Name "enumerate" p) [e] [] pos) g Γ (enum xs) B tgs Γ1 := fun F G σ H W R q =>
  wpi_of (pi_enum hgl hm pa_wp hs) ((da_cons he da_nil (by rw [hs]; rfl)) F G σ H W _ fun vs G' H' s W' r => by
    cases r with
    | @cons v _ _ _ r r' =>
      cases r'
      obtain ⟨a, vs, rfl, h1, h2⟩ := r
      have el := pair_len h2
      refine ⟨a, vs, rfl, .inl (rd_mono W'.gh h1), q _ G' H' s W' ⟨fun i G2 H2 s1 s2 hi => ?_, fun G2 H2 s1 s2 => ⟨vs, (.inl (rd_mono (s1.trans s2) h1)), by rw [enum_len]; exact Nat.le_of_eq el⟩, fun F i y G2 σ2 H2 Γ2 v H3 Q s1 W2 hy y' k => ?_⟩⟩
      · rw [enum_len] at hi
        exact ⟨vs, vs[i]'(by omega), (.inl (rd_mono (s1.trans s2) h1)), List.getElem?_eq_getElem (by omega)⟩
      · obtain ⟨T, x, rfl, nT, rfl, e2⟩ := y'
        have e3 := e2 vs (.inl (rd_mono (s1.trans W2.gh) h1))
        obtain ⟨y1, y2⟩ := y
        obtain ⟨f1, f2⟩ := enum_get hy
        simp only at f1 f2
        subst f1
        obtain ⟨v', e4, e5⟩ := pair_get h2 f2
        rw [e3] at e4; cases e4
        have sm := same_upd (o := .tup [.int (i : Nat), x]) (W2.gn nT)
        exact hg F _ σ2 _ Γ2 (.ref T) ((i : Int), y2) (W2.newG nT) ⟨T, _, x, rfl, upd_same, rfl, rep_mono (s1.trans sm) t x y2 e5⟩ Q fun σ' a' W3 => k _ σ' _ sm a' W3)
end
def AllF {S α : Type} (P : S → α → Prop) (f : S → α → S) : S → List α → Prop
  | _, [] => True
  | s, y :: ys => P s y ∧ AllF P f (f s y) ys
def Lp.step {S ρ : Type} (r : Lp S ρ) (k : S → Lp S ρ) : Lp S ρ := match r with
  | .go s => k s
  | .stop s => .stop s
  | .ret x => .ret x
def Lp.onGo {S ρ : Type} (r : Lp S ρ) (k : S → Prop) : Prop := match r with
  | .go s => k s
  | _ => True
def loopL {S α ρ : Type} (f : S → α → Lp S ρ) : S → List α → Lp S ρ
  | s, [] => .go s
  | s, y :: ys => (f s y).step fun s' => loopL f s' ys
def AllL {S α ρ : Type} (P : S → α → Prop) (f : S → α → Lp S ρ) : S → List α → Prop
  | _, [] => True
  | s, y :: ys => P s y ∧ (f s y).onGo fun s' => AllL P f s' ys
def LpOk {S ρ : Type} (K : PySem.W.Frag) (R : RI ρ) (F : Fx) (D : Ends) (Γs : S → List Slot) (G : Hp) : Lp S ρ → Prop
  | .go s => (∀ σ G' H, Same G G' → Wd K F G' σ H (Γs s) → D.nx σ H) ∧ ∀ σ G' H, Same G G' → Wd K F G' σ H (Γs s) → D.ct σ H
  | .stop s => ∀ σ G' H, Same G G' → Wd K F G' σ H (Γs s) → D.bk σ H
  | .ret x => ∀ G', Same G G' → R F G' D.rt x
def Turns {S ρ : Type} (K : PySem.W.Frag) (R : RI ρ) (Γs : S → List Slot) (o : Out ρ) (r : Lp S ρ) : Prop := ∀ (F : Fx) (D : Ends) (G : Hp), LpOk K R F D Γs G r → OutOk K R F D G o
def Lp.then {S S' ρ : Type} (r : Lp S ρ) (k : S → Lp S' ρ) : Lp S' ρ := match r with
  | .go s => k s
  | .stop s => k s
  | .ret x => .ret x
section
variable {K : PySem.W.Frag} {S ρ : Type} {R : RI ρ} {Γs : S → List Slot} {o o1 o2 : Out ρ} {s s1 s2 : S} {r1 r2 : Lp S ρ} {Γ : List Slot}
theorem tn_nx (h : Ent K Γ (Γs s)) : Turns K R Γs (.nx Γ) (.go s) := fun F D G q σ G' H sg W => by
  obtain ⟨G2, e, W2⟩ := h F G' σ H W
  exact q.1 σ G2 H (sg.trans e) W2
theorem tn_rt {x : ρ} : Turns K R Γs (.rt x) (.ret x) := fun F D G q => q
theorem tn_br {b : Bool} (h1 : b = true → Turns K R Γs o1 r1) (h2 : b = false → Turns K R Γs o2 r2) : Turns K R Γs (.br b o1 o2) (bif b then r1 else r2) := fun F D G q =>
  ⟨fun hb => by subst hb; exact h1 rfl F D G q, fun hb => by subst hb; exact h2 rfl F D G q⟩
theorem tn_lp {S' : Type} {r : Lp S' ρ} {k : S' → Out ρ} {k' : S' → Lp S ρ} (h : ∀ s, Turns K R Γs (k s) (k' s)) : Turns K R Γs (.lp r k) (r.then k') := fun F D G q => by
  cases r with
  | go s => exact h s F D G q
  | stop s => exact h s F D G q
  | ret x => exact q
end
section
variable {X : Cx} {ρ S α : Type} {R : RI ρ} {tg iter : Expr} {g : TG} {body : List Stmt} {pos : Pos} {Γ Γ1 : List Slot} {ys : List α} {B : α → List Slot → List Slot} {tgs : List Nat} {P : S → α → Prop}
theorem ds_forL (Γs : S → List Slot) {s0 : S} {f : S → α → Lp S ρ} (hi : DI X tg iter g Γ ys B tgs Γ1) (h0 : Ent X.K Γ1 (Γs s0)) (hP : AllL P f s0 ys)
    (hb : ∀ s y, P s y → ∃ o, DSs X R body (B y (Γs s)) o ∧ Turns X.K R Γs o (f s y)) (hg : PG X tg g) (hp : PassesOwn (model X.prog X.w) X.A X.env X.xe) (hc : X.calm = true := by rfl) (hs : ∀ x, foldedSetIterable iter X.env x = pure x := by intro _; rfl) :
    DS X R (.For tg iter body [] pos) Γ (.lp (loopL f s0 ys) fun s => .nx (Γs s)) := fun F G σ H W D q =>
  wps_of (ps_for hp hc pi_wp hg pss_wp hs) (hi F G σ H W _ fun J G1 H1 sg1 W1 it => by
    obtain ⟨G2, e2, W2⟩ := h0 F G1 σ H1 W1
    -- the word: what is left to take, and the end that it comes to
    refine ⟨fun i m σ' H' => m = ys.length - i ∧ i ≤ ys.length ∧ ∃ (G' : Hp) (s : S), Same G2 G' ∧ Wd X.K F G' σ' H' (Γs s) ∧ AllL P f s (ys.drop i) ∧ loopL f s0 ys = loopL f s (ys.drop i), ⟨ys.length, by omega, by omega, G2, s0, Same.refl _, W2, hP, rfl⟩, ?_⟩
    rintro i m σ' H' ⟨rfl, hi', G', s, sg', W', hA, hE⟩
    have sG : Same G G' := (sg1.trans e2).trans sg'
    by_cases hl : i < ys.length
    · refine .inr ⟨it.go i G' H' (e2.trans sg') W'.gh hl, ?_⟩
      have hd : ys.drop i = ys[i] :: ys.drop (i + 1) := List.drop_eq_getElem_cons hl
      rw [hd] at hA hE
      obtain ⟨o, ho, ht⟩ := hb s ys[i] hA.1
      have hA2 := hA.2
      have hE2 : loopL f s0 ys = (f s ys[i]).step fun s' => loopL f s' (ys.drop (i + 1)) := hE.trans (by rw [loopL])
      refine ⟨fun σ3 H3 => ∃ (G3 : Hp) (s' : S), Same G2 G3 ∧ Wd X.K F G3 σ3 H3 (Γs s') ∧ AllL P f s' (ys.drop (i + 1)) ∧ loopL f s0 ys = loopL f s' (ys.drop (i + 1)), fun σ3 H3 ⟨G3, s', a1, a2, a3, a4⟩ => ⟨ys.length - (i + 1), by omega, rfl, hl, G3, s', a1, a2, a3, a4⟩, fun v H3 y => ?_⟩
      refine it.yld F i ys[i] G' σ' H' (Γs s) v H3 _ (e2.trans sg') W' (List.getElem?_eq_getElem hl) y fun G3 σ3 H4 sg3 at3 W3 => ?_
      refine ho F G3 σ3 H4 W3 _ (ht F _ G3 ?_)
      cases hr : f s ys[i] with
      | go s' =>
        rw [hr] at hA2 hE2
        exact ⟨fun σ5 G5 H5 sg5 W5 => ⟨G5, s', (sg'.trans sg3).trans sg5, W5, hA2, hE2⟩, fun σ5 G5 H5 sg5 W5 => ⟨G5, s', (sg'.trans sg3).trans sg5, W5, hA2, hE2⟩⟩
      | stop s' =>
        rw [hr] at hE2
        intro σ5 G5 H5 sg5 W5
        rw [hE2] at q
        exact q σ5 G5 H5 ((sG.trans sg3).trans sg5) W5
      | ret x =>
        rw [hr] at hE2
        intro G5 sg5
        rw [hE2] at q
        exact q G5 ((sG.trans sg3).trans sg5)
    · have e : i = ys.length := by omega
      subst e
      rw [List.drop_length] at hE
      refine .inl ⟨it.stop G' H' (e2.trans sg') W'.gh, ?_⟩
      rw [hE] at q
      exact q σ' G' H' sG W')
end
def whileN {S : Type} (c : S → Bool) (f : S → S) : Nat → S → S
  | 0, s => s
  | n + 1, s => bif c s then whileN c f n (f s) else s
def OkW {S : Type} (Pc P : S → Prop) (c : S → Bool) (f : S → S) : Nat → S → Prop
  | 0, s => Pc s ∧ c s = false
  | n + 1, s => Pc s ∧ (c s = true → P s ∧ OkW Pc P c f n (f s))
section
variable {X : Cx} {ρ S : Type} {R : RI ρ} {tc : Expr} {body : List Stmt} {pos : Pos} {Γ Γ1 : List Slot} {Pc P : S → Prop}
end
end Dn
set_option Elab.async false
set_option linter.all false
set_option maxRecDepth 100000
set_option maxHeartbeats 1000000
namespace Dn
open PySem PySem.Spec PyProof.Rows L2 TL
variable [Tb0]
def wipeS (Γ : List Slot) : List Nat → List Slot
  | [] => Γ
  | v :: vs => (wipeS Γ vs).set v .un
theorem wipe_get {σ : L2.St} : ∀ {vs : List Nat} {i : Nat}, (wipe σ vs)[i]? = if i ∈ vs ∧ i < σ.length then some none else σ[i]?
  | [], i => by simp [wipe]
  | v :: vs, i => by
    have hl : (wipe σ vs).length = σ.length := wipe_length σ vs
    unfold wipe
    by_cases hi : v = i
    · subst hi
      by_cases hv : v < σ.length
      · rw [List.getElem?_set_self (by rw [hl]; exact hv), if_pos ⟨by simp, hv⟩]
      · rw [List.getElem?_eq_none (by rw [List.length_set, hl]; omega), if_neg (fun z => hv z.2), List.getElem?_eq_none (by omega)]
    · rw [List.getElem?_set_ne hi, wipe_get]
      have e : (i ∈ v :: vs ∧ i < σ.length) ↔ (i ∈ vs ∧ i < σ.length) := by
        simp only [List.mem_cons]
        constructor
        · rintro ⟨h | h, l⟩
          · exact absurd h.symm hi
          · exact ⟨h, l⟩
        · exact fun h => ⟨.inr h.1, h.2⟩
      by_cases c : i ∈ vs ∧ i < σ.length
      · rw [if_pos c, if_pos (e.mpr c)]
      · rw [if_neg c, if_neg fun z => c (e.mp z)]
theorem wipe_back {σ σ' : L2.St} {vs tgs : List Nat} (a : At' tgs (wipe σ vs) σ') (h : ∀ i ∈ tgs, i ∈ vs) : wipe σ' vs = wipe σ vs := by
  have hl : σ'.length = σ.length := a.1.trans (wipe_length σ vs)
  apply List.ext_getElem?
  intro i
  rw [wipe_get, wipe_get, hl]
  by_cases c : i ∈ vs ∧ i < σ.length
  · rw [if_pos c, if_pos c]
  · rw [if_neg c, if_neg c]
    by_cases m : i ∈ tgs
    · have nl : ¬ i < σ.length := fun z => c ⟨h i m, z⟩
      rw [List.getElem?_eq_none (by omega), List.getElem?_eq_none (by omega)]
    · rw [a.2 i m, wipe_get, if_neg c]
theorem wipeS_in {Γ : List Slot} : ∀ {vs : List Nat} {i : Nat} {s : Slot}, wipeS Γ vs = Γ → Γ[i]? = some s → i ∈ vs → s = .un := by
  have key : ∀ {vs : List Nat} {i : Nat} {s : Slot}, (wipeS Γ vs)[i]? = some s → i ∈ vs → s = .un := by
    intro vs
    induction vs with
    | nil => intro i s _ h; cases h
    | cons v vs ih =>
      intro i s e h
      unfold wipeS at e
      by_cases hi : v = i
      · subst hi
        have hv : v < (wipeS Γ vs).length := by have := (List.getElem?_eq_some_iff.mp e).1; rwa [List.length_set] at this
        rw [List.getElem?_set_self hv] at e
        exact (Option.some.inj e).symm
      · rw [List.getElem?_set_ne hi] at e
        rcases List.mem_cons.mp h with z | z
        · exact absurd z.symm hi
        · exact ih e z
  intro vs i s hw e h
  rw [← hw] at e
  exact key e h
section
variable {K : PySem.W.Frag} {F : Fx} {G H : Hp} {σ σ' : L2.St} {Γ : List Slot} {vs : List Nat}
theorem Wd.other (W : Wd K F G σ H Γ) (hl : σ'.length = σ.length) (h : ∀ (i : Nat) (s : Slot), Γ[i]? = some s → s = .un ∨ σ'[i]? = σ[i]?) : Wd K F G σ' H Γ where
  len := hl.trans W.len
  gh := W.gh
  th := W.th
  tb := W.tb
  tg := W.tg
  sl := fun i s e => by
    rcases h i s e with z | z
    · subst z; trivial
    · rw [z]; exact W.sl i s e
  dj := fun i j s s' p ne e1 o1 e2 o2 h1 h2 => by
    rcases h i s e1 with z | z
    · subst z; cases o1
    · rcases h j s' e2 with y | y
      · subst y; cases o2
      · exact W.dj i j s s' p ne e1 o1 e2 o2 (z ▸ h1) (y ▸ h2)
  ns := W.ns.go (fun j t x e => by
    rcases h j _ e with z | z
    · cases z
    · exact ⟨e, z⟩) (Same.refl G) fun a o q1 q2 q3 q4 => ⟨q1, q2, q3, fun j s e o => by
    rcases h j s e with z | z
    · subst z; cases o
    · rw [z]; exact q4 j s e o⟩
theorem Wd.wiped (W : Wd K F G σ H Γ) (hw : wipeS Γ vs = Γ) : Wd K F G (wipe σ vs) H Γ := W.other (wipe_length σ vs) fun i s e => by
  by_cases c : i ∈ vs
  · exact .inl (wipeS_in hw e c)
  · right; rw [wipe_get, if_neg fun z => c z.1]
theorem Wd.unwiped {tgs : List Nat} (W : Wd K F G σ' H Γ) (hw : wipeS Γ vs = Γ) (a : At' tgs (wipe σ vs) σ') (h : ∀ i ∈ tgs, i ∈ vs) : Wd K F G σ H Γ := W.other ((wipe_length σ vs).symm.trans a.1.symm) fun i s e => by
  by_cases c : i ∈ vs
  · exact .inl (wipeS_in hw e c)
  · right; rw [a.2 i fun z => c (h i z), wipe_get, if_neg fun z => c z.1]
theorem Wd.grow {p : Addr} {ho ho' : HO} (W : Wd K { F with T := upd F.T p ho } G σ H Γ) (hn0 : NT ho := by exact ⟨(by intro _ z; cases z), (by intro _ z; cases z)⟩) : Wd K { F with T := upd F.T p ho' } G σ (upd H p ho') Γ where
  len := W.len
  gh := fun b o e => by
    have ne : b ≠ p := ne_of_none e (W.held hn0).2
    rw [upd_ne ne]; exact W.gh b o e
  th := fun b o e => by
    change upd F.T p ho' b = some o at e
    by_cases hb : b = p
    · subst hb; rw [upd_same] at e ⊢; exact sameN_eq e
    · rw [upd_ne hb] at e ⊢; exact W.th b o (by show upd F.T p ho b = _; rw [upd_ne hb]; exact e)
  tb := W.tb.put (W.held hn0).1 hn0
  tg := fun b o e hn => by
    change upd F.T p ho' b = some o at e
    by_cases hb : b = p
    · subst hb; exact (W.held hn0).2
    · rw [upd_ne hb] at e; exact W.tg b o (by show upd F.T p ho b = _; rw [upd_ne hb]; exact e) hn
  sl := fun i s e => by
    have q := W.sl i s e
    cases s with
    | un => exact q
    | fr t x => exact q
    | fd o => exact q
    | mb t x => exact q
    | ow pin o =>
      obtain ⟨a, ho2, h1, h2, h3, h4, h5, h6⟩ := q
      change upd F.T p ho a = none at h3
      have ne : a ≠ p := fun z => by subst z; rw [upd_same] at h3; cases h3
      rw [upd_ne ne] at h3
      exact ⟨a, ho2, h1, h2, (by show upd F.T p ho' a = none; rw [upd_ne ne]; exact h3), by rw [upd_ne ne]; exact h4, h5, h6⟩
    | ns t x => trivial
  dj := W.dj
  ns := W.ns.go (fun _ _ _ e => ⟨e, rfl⟩) (Same.refl G) fun a o q1 q2 q3 q4 => by
    change upd F.T p ho a = none at q3
    have ne : a ≠ p := fun z => by subst z; rw [upd_same] at q3; cases q3
    rw [upd_ne ne] at q3
    exact ⟨by rw [upd_ne ne]; exact q1, q2, (by show upd F.T p ho' a = none; rw [upd_ne ne]; exact q3), q4⟩
end
def lcF {S α β : Type} (f : S → α → Option β × S) : List β × S → α → List β × S := fun a y => match f a.2 y with
  | (some x, s) => (a.1 ++ [x], s)
  | (none, s) => (a.1, s)
def AllC {S α β : Type} (P : S → α → Prop) (f : S → α → Option β × S) : S → List α → Prop
  | _, [] => True
  | s, y :: ys => P s y ∧ AllC P f (f s y).2 ys
theorem lcF_snd {S α β : Type} {f : S → α → Option β × S} {a : List β × S} {y : α} : (lcF f a y).2 = (f a.2 y).2 := by
  unfold lcF
  rcases f a.2 y with ⟨_ | x, s⟩ <;> rfl
theorem lcF_len {S α β : Type} {f : S → α → Option β × S} {a : List β × S} {y : α} : (lcF f a y).1.length ≤ a.1.length + 1 := by
  unfold lcF
  rcases f a.2 y with ⟨_ | x, s⟩ <;> simp
@[irreducible] def WPTs (X : Cx) (ifs : List Expr) : TT := fun σ H Q => ∀ (pins : List (Addr × Obj)) (s : Shared), Inv X pins σ H s →
    wpAny (model X.prog X.w) X.A (forIn ifs true fun c r => if r = true then do let ok ← isTrue c X.env (eval c X.env); pure (ForInStep.yield ok) else pure (ForInStep.yield r)) (TP X pins σ Q) X.xe s
theorem wpts_of {X : Cx} {ifs : List Expr} {t : TT} {σ : L2.St} {H : Hp} {Q : Bool → Hp → Prop} (p : PTs X ifs t) (h : t σ H Q) : WPTs X ifs σ H Q := by with_unfolding_all exact fun pins s I => p.run pins s σ H Q I h
theorem wpts_run {X : Cx} {ifs : List Expr} {σ : L2.St} {H : Hp} {Q : Bool → Hp → Prop} (h : WPTs X ifs σ H Q) : ∀ (pins : List (Addr × Obj)) (s : Shared), Inv X pins σ H s →
    wpAny (model X.prog X.w) X.A (forIn ifs true fun c r => if r = true then do let ok ← isTrue c X.env (eval c X.env); pure (ForInStep.yield ok) else pure (ForInStep.yield r)) (TP X pins σ Q) X.xe s := by with_unfolding_all exact h
abbrev DTs (X : Cx) (ifs : List Expr) (Γ : List Slot) (b : Bool) (Γ' : List Slot) : Prop := EvT X.K (WPTs X ifs) Γ b Γ'
theorem dts_nil {X : Cx} {Γ : List Slot} : DTs X [] Γ true Γ := fun F G σ H W Q q => wpts_of pts_nil (q G H (Same.refl G) W)
section
variable {X : Cx} {S α : Type} {tg iter elt : Expr} {ifs : List Expr} {scope : Scope} {g : TG} {pos : Pos} {Γ Γ1 : List Slot} {ys : List α} {B : α → List Slot → List Slot} {tgs : List Nat} {P : S → α → Prop} {t : Ty} {own : List (Str × Nat)}
theorem lc_run (Γs : S → List Slot) {s0 : S} {f : S → α → Option t.den × S} (hi : DI X tg iter g Γ ys B tgs (Γs s0)) (hz : Sz ys.length) (hP : AllC P f s0 ys) (hw : ∀ s, wipeS (Γs s) (own.map (·.2)) = Γs s) (htg : ∀ i ∈ tgs, i ∈ own.map (·.2))
    (hb : ∀ s y, P s y → ∃ (b : Bool) (Γt : List Slot) (x : t.den) (Γe : List Slot), ∀ (sh : Shared) (H : Hp) (C : Addr) (cl : List (Str × Addr)) (fp : List Addr), DTs (X.blk sh H scope (compEnvC scope cl C X.env) fp) ifs (B y (Γs s)) b Γt ∧
      (b = true → DE (X.blk sh H scope (compEnvC scope cl C X.env) fp) elt Γt t x Γe ∧ (f s y).1 = some x ∧ Wk Γe (Γs (f s y).2)) ∧ (b = false → (f s y).1 = none ∧ Wk Γt (Γs (f s y).2)))
 :
    (∀ F G σ H, Wd X.K F G σ H Γ → ∀ Q : VK, (∀ p ho G' H', Same G G' → Wd X.K { F with T := upd F.T p ho } G' σ H' (Γs (ys.foldl (lcF f) ([], s0)).2) → F.T p = none → OwnOk X.K G' ho (.lst t (ys.foldl (lcF f) ([], s0)).1) → Q (.ref p) H') →
      tLc (WPI X tg iter) g (fun σ H Q => ∀ sh H0 C cl fp, WPTs (X.blk sh H0 scope (compEnvC scope cl C X.env) fp) ifs σ H Q) (fun σ H Q => ∀ sh H0 C cl fp, WPE (X.blk sh H0 scope (compEnvC scope cl C X.env) fp) elt σ H Q) (own.map (·.2)) σ H Q) := by
  intro F G σ H W Q q
  refine hi F G σ H W _ fun J G1 H1 sg1 W1 it => ?_
  intro D hD
  have hT : F.T D = none := W1.tn hD
  refine ⟨fun i m H' => m = ys.length - i ∧ i ≤ ys.length ∧ ∃ (G' : Hp) (a : List t.den × S) (vs : List V), Same G1 G' ∧ Wd X.K { F with T := upd F.T D (.lst vs) } G' σ H' (Γs a.2) ∧ RepL X.K t G' vs a.1 ∧ a.1.length ≤ i ∧ AllC P f a.2 (ys.drop i) ∧ ys.foldl (lcF f) ([], s0) = (ys.drop i).foldl (lcF f) a,
    ⟨ys.length, by omega, by omega, G1, ([], s0), [], Same.refl _, W1.new hD, .nil, Nat.le_refl _, hP, rfl⟩, ?_⟩
  rintro i m H' ⟨rfl, hi', G', a, vs, sg', W', hr, hal, hA, hE⟩
  by_cases hl : i < ys.length
  · refine .inr ⟨it.go i G' H' sg' W'.gh hl, ?_⟩
    have hd : ys.drop i = ys[i] :: ys.drop (i + 1) := List.drop_eq_getElem_cons hl
    rw [hd] at hA hE
    obtain ⟨b, Γt, x, Γe, hblk⟩ := hb a.2 ys[i] hA.1
    have hA2 : AllC P f (lcF f a ys[i]).2 (ys.drop (i + 1)) := by rw [lcF_snd]; exact hA.2
    have hE2 : ys.foldl (lcF f) ([], s0) = (ys.drop (i + 1)).foldl (lcF f) (lcF f a ys[i]) := hE
    refine ⟨fun H3 => ∃ (G3 : Hp) (a' : List t.den × S) (vs' : List V), Same G1 G3 ∧ Wd X.K { F with T := upd F.T D (.lst vs') } G3 σ H3 (Γs a'.2) ∧ RepL X.K t G3 vs' a'.1 ∧ a'.1.length ≤ i + 1 ∧ AllC P f a'.2 (ys.drop (i + 1)) ∧ ys.foldl (lcF f) ([], s0) = (ys.drop (i + 1)).foldl (lcF f) a',
      fun H3 ⟨G3, a', vs', a1, a2, a3, a4, a5, a6⟩ => ⟨ys.length - (i + 1), by omega, rfl, hl, G3, a', vs', a1, a2, a3, a4, a5, a6⟩, fun v H3 y => ?_⟩
    refine it.yld { F with T := upd F.T D (.lst vs) } i ys[i] G' (wipe σ (own.map (·.2))) H' (Γs a.2) v H3 _ sg' (W'.wiped (hw _)) (List.getElem?_eq_getElem hl) y fun G3 σ3 H4 sg3 at3 W3 => ?_
    refine ⟨wipe_back at3 htg, fun sh H0 C cl fp => ?_⟩
    refine (hblk sh H0 C cl fp).1 _ G3 σ3 H4 W3 _ fun G4 H5 sg4 W4 => ?_
    cases b with
    | true =>
      rw [if_pos rfl]
      intro sh2 H02 C2 cl2 fp2
      obtain ⟨hx, hf, hk⟩ := (hblk sh2 H02 C2 cl2 fp2).2.1 rfl
      refine hx _ G4 σ3 H5 W4 _ fun u G5 H6 sg5 W5 r5 => ?_
      have W6 := (W5.weak hk).unwiped (hw _) at3 htg
      refine ⟨vs, (W6.held NT.lst).1, ?_, G5, lcF f a ys[i], vs ++ [u], ((sg'.trans sg3).trans sg4).trans sg5, ?_, ?_, ?_, hA2, hE2⟩
      · have e := pair_len hr
        have := hz.lt
        omega
      · rw [lcF_snd]; exact W6.grow
      · have e1 : (lcF f a ys[i]).1 = a.1 ++ [x] := by
          unfold lcF
          cases e2 : f a.2 ys[i] with
          | mk o s' => rw [e2] at hf; simp only at hf; subst hf; rfl
        rw [e1]
        exact pair_app (repL_mono ((sg3.trans sg4).trans sg5) hr) (.cons r5 .nil)
      · have := lcF_len (f := f) (a := a) (y := ys[i])
        omega
    | false =>
      rw [if_neg Bool.false_ne_true]
      obtain ⟨hf, hk⟩ := (hblk sh H0 C cl fp).2.2 rfl
      have W6 := (W4.weak hk).unwiped (hw _) at3 htg
      refine ⟨G4, lcF f a ys[i], vs, (sg'.trans sg3).trans sg4, by rw [lcF_snd]; exact W6, ?_, ?_, hA2, hE2⟩
      · have e1 : (lcF f a ys[i]).1 = a.1 := by
          unfold lcF
          cases e2 : f a.2 ys[i] with
          | mk o s' => rw [e2] at hf; simp only at hf; subst hf; rfl
        rw [e1]
        exact repL_mono (sg3.trans sg4) hr
      · have := lcF_len (f := f) (a := a) (y := ys[i])
        omega
  · have e : i = ys.length := by omega
    subst e
    rw [List.drop_length] at hE
    refine .inl ⟨it.stop G' H' sg' W'.gh, ?_⟩
    have hE' : ys.foldl (lcF f) ([], s0) = a := hE
    exact q D (.lst vs) G' H' (sg1.trans sg') (by rw [hE']; exact W') hT ⟨vs, rfl, by rw [hE']; exact hr⟩
structure LcOk (X : Cx) (elt tg iter : Expr) (ifs : List Expr) (scope : Scope) (Γ : List Slot) (o : Own) (Γ' : List Slot) : Prop where
  ex : ∃ (own : List (Str × Nat)) (wi : TI) (g : TG) (tt : TT) (te : TE), BlkOk X.N X.env.scope scope own ∧ PI X tg iter wi ∧
    (∀ (sh : Shared) (H : Hp) (C : Addr) (cl : List (Str × Addr)) (fp : List Addr), PG (X.blk sh H scope (compEnvC scope cl C X.env) fp) tg g) ∧
    (∀ (sh : Shared) (H : Hp) (C : Addr) (cl : List (Str × Addr)) (fp : List Addr), PTs (X.blk sh H scope (compEnvC scope cl C X.env) fp) ifs tt) ∧
    (∀ (sh : Shared) (H : Hp) (C : Addr) (cl : List (Str × Addr)) (fp : List Addr), PE (X.blk sh H scope (compEnvC scope cl C X.env) fp) elt te) ∧
    ∀ F G σ H, Wd X.K F G σ H Γ → ∀ Q : VK, (∀ p ho G' H', Same G G' → Wd X.K { F with T := upd F.T p ho } G' σ H' Γ' → F.T p = none → OwnOk X.K G' ho o → Q (.ref p) H') → tLc wi g tt te (own.map (·.2)) σ H Q
abbrev InBlk (X : Cx) (scope : Scope) (p : Cx → Prop) : Prop := ∀ (sh : Shared) (H : Hp) (C : Addr) (cl : List (Str × Addr)) (fp : List Addr), p (X.blk sh H scope (compEnvC scope cl C X.env) fp)
theorem lc_S (own : List (Str × Nat)) (Γs : S → List Slot) {s0 : S} {f : S → α → Option t.den × S} (hi : DI X tg iter g Γ ys B tgs (Γs s0)) (hg : InBlk X scope fun X' => PG X' tg g) (hz : Sz ys.length) (hP : AllC P f s0 ys)
    (hb : ∀ s y, P s y → ∃ (b : Bool) (Γt : List Slot) (x : t.den) (Γe : List Slot), InBlk X scope fun X' => DTs X' ifs (B y (Γs s)) b Γt ∧ (b = true → DE X' elt Γt t x Γe ∧ (f s y).1 = some x ∧ Wk Γe (Γs (f s y).2)) ∧ (b = false → (f s y).1 = none ∧ Wk Γt (Γs (f s y).2)))
    (ok : BlkOk X.N X.env.scope scope own) (hw : ∀ s, wipeS (Γs s) (own.map (·.2)) = Γs s := by intro _; rfl) (htg : ∀ i ∈ tgs, i ∈ own.map (·.2) := by decide) : LcOk X elt tg iter ifs scope Γ (.lst t (ys.foldl (lcF f) ([], s0)).1) (Γs (ys.foldl (lcF f) ([], s0)).2) :=
  ⟨own, _, g, _, _, ok, pi_wp, hg, fun sh H C cl fp => ⟨fun pins s σ H' Q I h => wpts_run (h sh H C cl fp) pins s I⟩, fun sh H C cl fp => ⟨fun pins s σ H' Q I h => wpe_run (h sh H C cl fp) pins s I⟩, lc_run Γs hi hz hP hw htg hb⟩
theorem fold_map {β : Type} {h : α → β} : ∀ {ys : List α} {a : List β × Unit}, ys.foldl (lcF fun (s : Unit) y => (some (h y), s)) a = (a.1 ++ ys.map h, ())
  | [], a => by simp
  | y :: ys, a => by rw [List.foldl_cons, fold_map]; simp [lcF]
theorem allC_of {β : Type} {P : α → Prop} {f : Unit → α → Option β × Unit} : ∀ {ys : List α}, (∀ y ∈ ys, P y) → AllC (fun _ y => P y) f () ys
  | [], _ => trivial
  | y :: ys, h => ⟨h y (by simp), allC_of fun z hz => h z (by simp [hz])⟩
theorem lc_map (own : List (Str × Nat)) {P : α → Prop} {h : α → t.den} (hi : DI X tg iter g Γ ys B tgs Γ1) (hg : InBlk X scope fun X' => PG X' tg g) (hz : Sz ys.length) (hP : ∀ y ∈ ys, P y)
    (hb : ∀ y, P y → ∃ Γe, Wk Γe Γ1 ∧ InBlk X scope fun X' => DE X' elt (B y Γ1) t (h y) Γe)
    (ok : BlkOk X.N X.env.scope scope own) (hw : wipeS Γ1 (own.map (·.2)) = Γ1 := by rfl) (htg : ∀ i ∈ tgs, i ∈ own.map (·.2) := by decide) : LcOk X elt tg iter [] scope Γ (.lst t (ys.map h)) Γ1 := by
  have r := lc_S (X := X) (scope := scope) (elt := elt) (ifs := []) (P := fun _ y => P y) (t := t) own (fun _ : Unit => Γ1) (s0 := ()) (f := fun s y => (some (h y), s)) hi hg hz (allC_of hP) (fun s y p => by
    obtain ⟨Γe, k, d⟩ := hb y p
    exact ⟨true, _, h y, Γe, fun sh H C cl fp => ⟨dts_nil, fun _ => ⟨d sh H C cl fp, rfl, k⟩, fun z => by cases z⟩⟩) ok (fun _ => hw) htg
  rw [fold_map] at r
  exact r
def mapS {S α β : Type} (f : S → α → β × S) : S → List α → List β × S
  | s, [] => ([], s)
  | s, y :: ys => ((f s y).1 :: (mapS f (f s y).2 ys).1, (mapS f (f s y).2 ys).2)
theorem fold_mapS {β : Type} {f : S → α → β × S} : ∀ {ys : List α} {a : List β × S}, ys.foldl (lcF fun s y => (some (f s y).1, (f s y).2)) a = (a.1 ++ (mapS f a.2 ys).1, (mapS f a.2 ys).2)
  | [], a => by simp [mapS]
  | y :: ys, a => by rw [List.foldl_cons, fold_mapS]; simp [lcF, mapS]
def AllS {S α β : Type} (P : S → α → Prop) (f : S → α → β × S) : S → List α → Prop
  | _, [] => True
  | s, y :: ys => P s y ∧ AllS P f (f s y).2 ys
theorem allC_S {β : Type} {f : S → α → β × S} : ∀ {ys : List α} {s : S}, AllS P f s ys → AllC P (fun s y => (some (f s y).1, (f s y).2)) s ys
  | [], _, _ => trivial
  | _ :: _, _, h => ⟨h.1, allC_S h.2⟩
theorem lc_mapS (own : List (Str × Nat)) (Γs : S → List Slot) {s0 : S} {f : S → α → t.den × S} (hi : DI X tg iter g Γ ys B tgs (Γs s0)) (hg : InBlk X scope fun X' => PG X' tg g) (hz : Sz ys.length) (hP : AllS P f s0 ys)
    (hb : ∀ s y, P s y → ∃ Γe, Wk Γe (Γs (f s y).2) ∧ InBlk X scope fun X' => DE X' elt (B y (Γs s)) t (f s y).1 Γe)
    (ok : BlkOk X.N X.env.scope scope own) (hw : ∀ s, wipeS (Γs s) (own.map (·.2)) = Γs s := by intro _; rfl) (htg : ∀ i ∈ tgs, i ∈ own.map (·.2) := by decide) : LcOk X elt tg iter [] scope Γ (.lst t (mapS f s0 ys).1) (Γs (mapS f s0 ys).2) := by
  have r := lc_S (X := X) (scope := scope) (elt := elt) (ifs := []) (P := P) (t := t) own Γs (s0 := s0) (f := fun s y => (some (f s y).1, (f s y).2)) hi hg hz (allC_S hP) (fun s y p => by
    obtain ⟨Γe, k, d⟩ := hb s y p
    exact ⟨true, _, (f s y).1, Γe, fun sh H C cl fp => ⟨dts_nil, fun _ => ⟨d sh H C cl fp, rfl, k⟩, fun z => by cases z⟩⟩) ok hw htg
  rw [fold_mapS] at r
  exact r
end
section
variable {X : Cx} {ρ : Type} {R : RI ρ} {tg iter elt : Expr} {ifs : List Expr} {scope : Scope} {pos : Pos} {Γ Γ1 : List Slot} {o : Own}
theorem do_lc (h : LcOk X elt tg iter ifs scope Γ o Γ1) (hN : X.N.Nodup) (hc : X.calm = true := by rfl) (hs : ∀ x, foldedSetIterable iter X.env x = pure x := by intro _; rfl) : DO X (.ListComp elt [⟨tg, iter, ifs, 0⟩] scope pos) Γ o Γ1 := fun F G σ H W Q q => by
  obtain ⟨own, wi, g, tt, te, ok, hi, hg, ht, he, k⟩ := h.ex
  exact wpe_of (pe_lc hc hN hi ok hg ht he hs) (k F G σ H W Q q)
theorem ds_lc (i : Nat) {y : Str} {py spos : Pos} (h : LcOk X elt tg iter ifs scope Γ o Γ1) (hN : X.N.Nodup) (hy : X.N[i]? = some y := by rfl) (hyl : X.env.scope.names.lookup y = some .local := by rfl)
    (hsw : swapsWith (.ListComp elt [⟨tg, iter, ifs, 0⟩] scope pos) (some (.Name y py)) spos.line X.env = pure true := by exact sw_true rfl rfl rfl (by decide +kernel)) (hc : X.calm = true := by rfl) (hs : ∀ x, foldedSetIterable iter X.env x = pure x := by intro _; rfl) :
    DS X R (.Assign [.Name y py] (.ListComp elt [⟨tg, iter, ifs, 0⟩] scope pos) spos) Γ (.nx (Γ1.set i (.ow false o))) := fun F G σ H W D q => by
  obtain ⟨own, wi, g, tt, te, ok, hi, hg, ht, he, k⟩ := h.ex
  refine wps_of (ps_setLc hc hN hy hyl hsw hi ok hg ht he hs) ?_
  show tLc wi g tt te (own.map (·.2)) σ H fun x H1 => gName i x σ H1 D.nx
  exact k F G σ H W _ fun p ho G' H' s W' hT okp => q _ G' H' s (W'.setOw hT okp)
end
end Dn
set_option Elab.async false
set_option linter.all false
set_option maxRecDepth 100000
set_option maxHeartbeats 1000000
namespace Dn
open PySem PySem.Spec PyProof.Rows L2 TL
variable [Tb0]
section
variable {X : Cx}
def tTupO (t : TA) : TE := fun σ H Q => t σ H fun xs H1 => xs.length ≤ sizeLine ∧ ∀ (p : Addr) (o : Obj), H1 p = none → o.dict = none → Q (.ref p) (upd H1 p (.frz o (.tup xs)))
def rTupleO (K : PySem.W.Frag) : List V → Hp → VK → Prop := fun xs H Q => ∃ p ys, xs = [.ref p] ∧ SqL K H p ys ∧ ∀ (l : Addr) (o : Obj), H l = none → o.dict = none → Q (.ref l) (upd H l (.frz o (.tup ys)))
def rSlO (K : PySem.W.Frag) : V → Option Int → Option Int → Hp → VK → Prop := fun x lo hi H Q => ∃ a xs, x = .ref a ∧ SqT K H a xs ∧
  ((HT.sIx xs.length 0 lo = 0 ∧ HT.sIx xs.length xs.length hi = xs.length → Q (.ref a) H) ∧ (¬ (HT.sIx xs.length 0 lo = 0 ∧ HT.sIx xs.length xs.length hi = xs.length) → ∀ (p : Addr) (o : Obj), H p = none → o.dict = none → Q (.ref p) (upd H p (.frz o (.tup (cutV xs lo hi))))))
def rCatO (K : PySem.W.Frag) : R2 := fun x y H Q => ∃ a b xs ys, x = .ref a ∧ y = .ref b ∧ SqT K H a xs ∧ SqT K H b ys ∧ xs.length + ys.length ≤ sizeLine ∧
  ((xs = [] → Q (.ref b) H) ∧ (xs ≠ [] → ys = [] → Q (.ref a) H) ∧ (xs ≠ [] → ys ≠ [] → ∀ (p : Addr) (o : Obj), H p = none → o.dict = none → Q (.ref p) (upd H p (.frz o (.tup (xs ++ ys))))))
end
section
variable {X : Cx} {a b e : Expr} {es : List Expr} {pos p : Pos} {Γ Γ1 Γ2 Γ3 : List Slot} {t u : Ty} {xs ys : List t.den}
theorem sz_of {n : Nat} (h : Nat.ble n 100000 = true) : Sz n := Nat.le_of_ble_eq_true h
def EvLs (K : PySem.W.Frag) (ta : TA) (Γ : List Slot) (t : Ty) (xs : List t.den) (Γ' : List Slot) : Prop :=
  ∀ (F : Fx) (G : Hp) (σ : L2.St) (H : Hp), Wd K F G σ H Γ → ∀ Q : List V → Hp → Prop, (∀ vs G' H', Same G G' → Wd K F G' σ H' Γ' → RepL K t G' vs xs → Q vs H') → ta σ H Q
abbrev DLs (X : Cx) (es : List Expr) (Γ : List Slot) (t : Ty) (xs : List t.den) (Γ' : List Slot) : Prop := EvLs X.K (WPA X es) Γ t xs Γ'
theorem dls_nil : DLs X [] Γ t [] Γ := fun F G σ H W Q q => wpa_of pa_nil (q [] G H (Same.refl G) W .nil)
theorem dls_cons {x : t.den} (ha : DE X e Γ t x Γ1) (hr : DLs X es Γ1 t xs Γ2) (hs : starEach (e :: es) X.env = (false, eval e X.env) :: starEach es X.env := by rfl) : DLs X (e :: es) Γ t (x :: xs) Γ2 := fun F G σ H W Q q =>
  wpa_of (pa_cons pe_wp pa_wp hs) (ha F G σ H W _ fun v G1 H1 s1 W1 r1 => hr F G1 σ H1 W1 _ fun vs G2 H2 s2 W2 r2 => q (v :: vs) G2 H2 (s1.trans s2) W2 (.cons (rep_mono s2 t v x r1) r2))
theorem do_lst (h : DLs X es Γ t xs Γ1) (hz : Sz xs.length := by exact sz_of rfl) : DO X (.List es pos) Γ (.lst t xs) Γ1 := fun F G σ H W Q q =>
  wpe_of (pe_lst pa_wp) (h F G σ H W _ fun vs G' H' s W' r => by
    have el := pair_len r
    exact ⟨by rw [el]; exact hz.le, fun p hp => q p (.lst vs) G' _ s (W'.new hp) (W'.tn hp) ⟨vs, rfl, r⟩⟩)
section
variable {A B C D E5 : Ty} {x1 : A.den} {x2 : B.den} {x3 : C.den} {x4 : D.den} {x5 : E5.den} {kk : Nat} {a1 a2 a3 a4 a5 : Expr} {Γ4 Γ5 : List Slot}
theorem de_t4 {k} (h1 : DE X a1 Γ A x1 Γ1) (h2 : DE X a2 Γ1 B x2 Γ2) (h3 : DE X a3 Γ2 C x3 Γ3) (h4 : DE X a4 Γ3 D x4 Γ4) (hs : starEach [a1, a2, a3, a4] X.env = (false, eval a1 X.env) :: starEach [a2, a3, a4] X.env := by rfl) (hs2 : starEach [a2, a3, a4] X.env = (false, eval a2 X.env) :: starEach [a3, a4] X.env := by rfl)
    (hs3 : starEach [a3, a4] X.env = (false, eval a3 X.env) :: starEach [a4] X.env := by rfl) (hs4 : starEach [a4] X.env = (false, eval a4 X.env) :: starEach [] X.env := by rfl) : DE X (.Tuple [a1, a2, a3, a4] k pos) Γ (.p4 A B C D) (x1, x2, x3, x4) Γ4 := fun F G σ H W Q q =>
  wpe_of (pe_tup (pa_cons pe_wp (pa_cons pe_wp (pa_cons pe_wp (pa_cons pe_wp pa_nil hs4) hs3) hs2) hs)) (h1 F G σ H W _ fun v1 G1 H1 s1 W1 r1 => h2 F G1 σ H1 W1 _ fun v2 G2 H2 s2 W2 r2 => h3 F G2 σ H2 W2 _ fun v3 G3 H3 s3 W3 r3 => h4 F G3 σ H3 W3 _ fun v4 G4 H4 s4 W4 r4 => by
    refine ⟨(by show 4 ≤ sizeLine; decide), fun p hp => ?_⟩
    have sm := same_upd (o := .tup [v1, v2, v3, v4]) (W4.gn hp)
    exact q (.ref p) _ _ ((((s1.trans s2).trans s3).trans s4).trans sm) (W4.newG hp) ⟨p, v1, v2, v3, v4, rfl, .inl (.inl upd_same), rep_mono (((s2.trans s3).trans s4).trans sm) A _ _ r1, rep_mono ((s3.trans s4).trans sm) B _ _ r2, rep_mono (s4.trans sm) C _ _ r3, rep_mono sm D _ _ r4⟩)
end
def cut {α : Type} (xs : List α) (lo hi : Option Int) : List α := (xs.drop (HT.sIx xs.length 0 lo)).take (HT.sIx xs.length xs.length hi - HT.sIx xs.length 0 lo)
def WPOp (X : Cx) (e : Option Expr) : TO := fun σ H Q => ∃ t, PO X e t ∧ t σ H Q
def EvP (K : PySem.W.Frag) (to : TO) (Γ : List Slot) (o : Option Int) (Γ' : List Slot) : Prop :=
  ∀ (F : Fx) (G : Hp) (σ : L2.St) (H : Hp), Wd K F G σ H Γ → ∀ Q : Option Int → Hp → Prop, (∀ G' H', Same G G' → Wd K F G' σ H' Γ' → Q o H') → to σ H Q
abbrev DP (X : Cx) (e : Option Expr) (Γ : List Slot) (o : Option Int) (Γ' : List Slot) : Prop := EvP X.K (WPOp X e) Γ o Γ'
section
variable {l h : Option Expr} {lo hi : Option Int} {p2 : Pos}
end
def rCatR : R2 := fun x y H Q => ∃ l b xs zs, x = .ref l ∧ y = .ref b ∧ Rd H l (.lst xs) ∧ Rd H b (.lst zs) ∧ xs.length + zs.length ≤ sizeLine ∧ ∀ p, H p = none → Q (.ref p) (upd H p (.lst (xs ++ zs)))
section
variable {n : Str}
theorem wpa_one {σ : L2.St} {H : Hp} {Q : List V → Hp → Prop} (hs : starEach [e] X.env = (false, eval e X.env) :: starEach [] X.env) (h : WPE X e σ H fun v H' => Q [v] H') : WPA X [e] σ H Q :=
  wpa_of (pa_cons pe_wp pa_nil hs) h
theorem de_len (hm : X.mg "len" = none) (h : DQ X e Γ t xs Γ1) (hg : Gl X "len" := by rfl) (hs : starEach [e] X.env = (false, eval e X.env) :: starEach [] X.env := by rfl) (hpl : (backTo pos (starEach [] X.env)).any (·.1) = false := by rfl) : DE X (.Call (.Name "len" p) [e] [] pos) Γ .int (xs.length : Int) Γ1 := fun F G σ H W Q q =>
  wpe_of (pe_callB call_len_seq hg hm PySem.boot_len pa_wp (by decide) (by decide) hs hpl) (wpa_one hs (h F G σ H W _ fun a vs G1 H1 s1 W1 h1 h2 => ⟨a, vs, rfl, h1, q _ G1 H1 s1 W1 (by rw [pair_len h2]; rfl)⟩))
def b2z (c : Bool) : Int := bif c then 1 else 0
theorem de_intB {c : Bool} (hm : X.mg "int" = none) (h : DE X e Γ .bool c Γ1) (hg : Gl X "int" := by rfl) (hs : starEach [e] X.env = (false, eval e X.env) :: starEach [] X.env := by rfl) (hpl : (backTo pos (starEach [] X.env)).any (·.1) = false := by rfl) : DE X (.Call (.Name "int" p) [e] [] pos) Γ .int (b2z c) Γ1 := fun F G σ H W Q q =>
  wpe_of (pe_callTy call_int1 hg hm (by decide +kernel) pa_wp (by decide) (by decide) hs hpl) (wpa_one hs (h F G σ H W _ fun v G1 H1 s1 W1 r1 => .inr ⟨c, by rw [show v = _ from r1], q _ G1 H1 s1 W1 (by cases c <;> rfl)⟩))
end
end
end Dn
set_option Elab.async false
set_option linter.all false
set_option maxRecDepth 100000
set_option maxHeartbeats 1000000
namespace Dn
open PySem PySem.Spec PyProof.Rows L2 TL
variable [Tb0]
def Ty.dep : Ty → Nat
  | .dat => 8
  | .ex => 61
  | .int => 0 | .bool => 0 | .str => 0 | .non => 0 | .si => 0
  | .scr => 1
  | .sm a b => max a.dep b.dep
  | .opt t => t.dep
  | .lst t => t.dep + 1 | .tup t => t.dep + 1 | .iu t => t.dep + 1
  | .p2 a b => max a.dep b.dep + 1
  | .p3 a b c => max a.dep (max b.dep c.dep) + 1
  | .p4 a b c d => max a.dep (max b.dep (max c.dep d.dep)) + 1
  | .p5 a b c d e => max a.dep (max b.dep (max c.dep (max d.dep e.dep))) + 1
def toPy : (t : Ty) → t.den → PyData
  | .dat, x => x.d
  | .ex, _ => .none
  | .int, x => .int x
  | .bool, x => .bool x
  | .str, x => .str ⟨x.toArray⟩
  | .non, _ => .none
  | .scr, x => .list (x.map fun z => .int z)
  | .opt t, x => match x with
    | none => .none
    | some y => toPy t y
  | .lst t, x => .list (x.map (toPy t))
  | .tup t, x => .tuple (x.map (toPy t))
  | .si, x => match x with
    | .inl s => .str ⟨s.toArray⟩
    | .inr i => .int i
  | .sm a b, x => match x with
    | .inl y => toPy a y
    | .inr y => toPy b y
  | .iu t, x => match x with
    | .inl i => .int i
    | .inr y => .tuple (y.map (toPy t))
  | .p2 a b, x => .tuple [toPy a x.1, toPy b x.2]
  | .p3 a b c, x => .tuple [toPy a x.1, toPy b x.2.1, toPy c x.2.2]
  | .p4 a b c d, x => .tuple [toPy a x.1, toPy b x.2.1, toPy c x.2.2.1, toPy d x.2.2.2]
  | .p5 a b c d e, x => .tuple [toPy a x.1, toPy b x.2.1, toPy c x.2.2.1, toPy d x.2.2.2.1, toPy e x.2.2.2.2]
section
variable {K : PySem.W.Frag} {G H : Hp}
theorem dpAll_of {t : Ty} (f : ∀ v x, Rep K t G v x → Dp K H v (toPy t x)) : ∀ {vs : List V} {xs : List t.den}, RepL K t G vs xs → DpAll K H vs (xs.map (toPy t))
  | _, _, .nil => .nil
  | _, _, .cons r t => .cons (f _ _ r) (dpAll_of f t)
theorem dp_ints : ∀ (xs : List Int), DpAll K H (xs.map V.int) (xs.map fun z => PyData.int z)
  | [] => .nil
  | x :: xs => .cons (.int x) (dp_ints xs)
theorem rep_dp (sg : Same G H) : ∀ (t : Ty) (v : V) (x : t.den), Rep K t G v x → t.dep ≤ 60 → Dp K H v (toPy t x)
  | .dat, _, x, h, _ => dp_mono sg x.d _ h
  | .ex, _, _, _, hd => absurd hd (by decide)
  | .int, _, _, h, _ => by cases h; exact .int _
  | .bool, _, _, h, _ => by cases h; exact .bl _
  | .str, _, _, h, _ => by cases h; exact .str _
  | .non, _, _, h, _ => by cases h; exact .non
  | .scr, _, x, ⟨a, h1, h2⟩, _ => by subst h1; exact .lst (sql_mono sg h2) (dp_ints x)
  | .opt t, _, none, h, _ => by cases h; exact .non
  | .opt t, _, some y, h, hd => rep_dp sg t _ y h.2 hd
  | .lst t, _, _, ⟨a, vs, h1, h2, h3⟩, hd => by subst h1; exact .lst (.inl (rd_mono sg h2)) (dpAll_of (fun v x r => rep_dp sg t v x r (by simp only [Ty.dep] at hd; omega)) h3)
  | .tup t, _, _, ⟨a, vs, h1, h2, h3⟩, hd => by subst h1; exact .tup (sqt_mono sg h2.t) (dpAll_of (fun v x r => rep_dp sg t v x r (by simp only [Ty.dep] at hd; omega)) h3)
  | .si, _, .inl i, h, _ => by cases h; exact .str _
  | .si, _, .inr i, h, _ => by cases h; exact .int _
  | .sm a _, _, .inl y, h, hd => rep_dp sg a _ y h (by simp only [Ty.dep] at hd; omega)
  | .sm _ b, _, .inr y, h, hd => rep_dp sg b _ y h (by simp only [Ty.dep] at hd; omega)
  | .iu t, _, .inl i, h, _ => by cases h; exact .int _
  | .iu t, _, .inr y, ⟨a, vs, h1, h2, h3⟩, hd => by subst h1; exact .tup (sqt_mono sg h2.t) (dpAll_of (fun v x r => rep_dp sg t v x r (by simp only [Ty.dep] at hd; omega)) h3)
  | .p2 a b, _, _, ⟨p, v1, v2, h0, h1, h2, h3⟩, hd => by subst h0; exact .tup (sqt_mono sg (tT h1)) (.cons (rep_dp sg a _ _ h2 (by simp only [Ty.dep] at hd; omega)) (.cons (rep_dp sg b _ _ h3 (by simp only [Ty.dep] at hd; omega)) .nil))
  | .p3 a b c, _, _, ⟨p, v1, v2, v3, h0, h1, h2, h3, h4⟩, hd => by subst h0; exact .tup (sqt_mono sg (tT h1)) (.cons (rep_dp sg a _ _ h2 (by simp only [Ty.dep] at hd; omega)) (.cons (rep_dp sg b _ _ h3 (by simp only [Ty.dep] at hd; omega)) (.cons (rep_dp sg c _ _ h4 (by simp only [Ty.dep] at hd; omega)) .nil)))
  | .p4 a b c d, _, _, ⟨p, v1, v2, v3, v4, h0, h1, h2, h3, h4, h5⟩, hd => by subst h0; exact .tup (sqt_mono sg h1) (.cons (rep_dp sg a _ _ h2 (by simp only [Ty.dep] at hd; omega)) (.cons (rep_dp sg b _ _ h3 (by simp only [Ty.dep] at hd; omega)) (.cons (rep_dp sg c _ _ h4 (by simp only [Ty.dep] at hd; omega)) (.cons (rep_dp sg d _ _ h5 (by simp only [Ty.dep] at hd; omega)) .nil))))
  | .p5 a b c d e, _, _, ⟨p, v1, v2, v3, v4, v5, h0, h1, h2, h3, h4, h5, h6⟩, hd => by subst h0; exact .tup (sqt_mono sg h1) (.cons (rep_dp sg a _ _ h2 (by simp only [Ty.dep] at hd; omega)) (.cons (rep_dp sg b _ _ h3 (by simp only [Ty.dep] at hd; omega)) (.cons (rep_dp sg c _ _ h4 (by simp only [Ty.dep] at hd; omega)) (.cons (rep_dp sg d _ _ h5 (by simp only [Ty.dep] at hd; omega)) (.cons (rep_dp sg e _ _ h6 (by simp only [Ty.dep] at hd; omega)) .nil)))))
end
def Ty.solid : Ty → Bool
  | .opt _ => false | .non => false | .sm _ _ => false | .dat => false | .ex => false | _ => true
def Ty.canEq : Ty → Bool
  | .dat => false | .ex => false
  | .int => true | .bool => true | .str => true | .non => true
  | .scr => false | .si => true | .sm _ _ => false
  | .opt t => t.canEq && t.solid
  | .lst t => t.canEq | .tup t => t.canEq | .iu t => t.canEq
  | .p2 a b => a.canEq && b.canEq
  | .p3 a b c => a.canEq && b.canEq && c.canEq
  | .p4 a b c d => a.canEq && b.canEq && c.canEq && d.canEq
  | .p5 a b c d e => a.canEq && b.canEq && c.canEq && d.canEq && e.canEq
noncomputable def Ty.dec : (t : Ty) → DecidableEq t.den
  | .dat => fun x y => Classical.propDecidable (x = y)
  | .ex => inferInstanceAs (DecidableEq (Nat × Int))
  | .int => inferInstanceAs (DecidableEq Int)
  | .bool => inferInstanceAs (DecidableEq Bool)
  | .str => inferInstanceAs (DecidableEq (List Nat))
  | .non => inferInstanceAs (DecidableEq Unit)
  | .scr => inferInstanceAs (DecidableEq (List Int))
  | .opt t => by have := t.dec; exact inferInstanceAs (DecidableEq (Option t.den))
  | .lst t => by have := t.dec; exact inferInstanceAs (DecidableEq (List t.den))
  | .tup t => by have := t.dec; exact inferInstanceAs (DecidableEq (List t.den))
  | .si => inferInstanceAs (DecidableEq (List Nat ⊕ Int))
  | .iu t => by have := t.dec; exact inferInstanceAs (DecidableEq (Int ⊕ List t.den))
  | .sm a b => by have := a.dec; have := b.dec; exact inferInstanceAs (DecidableEq (a.den ⊕ b.den))
  | .p2 a b => by have := a.dec; have := b.dec; exact inferInstanceAs (DecidableEq (a.den × b.den))
  | .p3 a b c => by have := a.dec; have := b.dec; have := c.dec; exact inferInstanceAs (DecidableEq (a.den × b.den × c.den))
  | .p4 a b c d => by have := a.dec; have := b.dec; have := c.dec; have := d.dec; exact inferInstanceAs (DecidableEq (a.den × b.den × c.den × d.den))
  | .p5 a b c d e => by have := a.dec; have := b.dec; have := c.dec; have := d.dec; have := e.dec; exact inferInstanceAs (DecidableEq (a.den × b.den × c.den × d.den × e.den))
theorem eqv_iff_all {t : Ty} (f : ∀ x y : t.den, PyData.eqv (toPy t x) (toPy t y) = true ↔ x = y) : ∀ xs ys : List t.den, PyData.eqvAll (xs.map (toPy t)) (ys.map (toPy t)) = true ↔ xs = ys
  | [], [] => by simp [PyData.eqvAll]
  | [], _ :: _ => by simp [PyData.eqvAll]
  | _ :: _, [] => by simp [PyData.eqvAll]
  | x :: xs, y :: ys => by simp [PyData.eqvAll, f x y, eqv_iff_all f xs ys]
theorem toPy_ne_none : ∀ (t : Ty) (x : t.den), t.solid = true → PyData.eqv .none (toPy t x) = false ∧ PyData.eqv (toPy t x) .none = false
  | .dat, _, h => by cases h
  | .ex, _, h => by cases h
  | .int, _, _ => ⟨rfl, rfl⟩
  | .bool, _, _ => ⟨rfl, rfl⟩
  | .str, _, _ => ⟨rfl, rfl⟩
  | .non, _, h => by cases h
  | .scr, _, _ => by simp [toPy, PyData.eqv]
  | .opt t, _, h => by cases h
  | .lst t, _, _ => by simp [toPy, PyData.eqv]
  | .tup t, _, _ => by simp [toPy, PyData.eqv]
  | .si, x, _ => by cases x <;> simp [toPy, PyData.eqv]
  | .iu t, x, _ => by cases x <;> simp [toPy, PyData.eqv]
  | .sm _ _, _, h => by cases h
  | .p2 .., _, _ => by simp [toPy, PyData.eqv]
  | .p3 .., _, _ => by simp [toPy, PyData.eqv]
  | .p4 .., _, _ => by simp [toPy, PyData.eqv]
  | .p5 .., _, _ => by simp [toPy, PyData.eqv]
theorem eqv_iff : ∀ (t : Ty), t.canEq = true → ∀ x y : t.den, PyData.eqv (toPy t x) (toPy t y) = true ↔ x = y
  | .dat, h, _, _ => by cases h
  | .ex, h, _, _ => by cases h
  | .int, _, x, y => by simp [toPy, PyData.eqv]
  | .bool, _, x, y => by simp [toPy, PyData.eqv]
  | .str, _, x, y => by
    simp only [toPy, PyData.eqv, beq_iff_eq]
    constructor
    · intro h; injection h with h; exact List.toArray_inj h
    · intro h; rw [h]
  | .non, _, x, y => by simp [toPy, PyData.eqv]
  | .scr, h, _, _ => by cases h
  | .sm _ _, h, _, _ => by cases h
  | .opt t, h, x, y => by
    simp only [Ty.canEq, Bool.and_eq_true] at h
    have n := fun z => toPy_ne_none t z h.2
    cases x with
    | none => cases y with
      | none => simp [toPy, PyData.eqv]
      | some y => simp only [toPy, (n y).1]; simp
    | some x => cases y with
      | none => simp only [toPy, (n x).2]; simp
      | some y => simp only [toPy, eqv_iff t h.1 x y, Option.some.injEq]
  | .lst t, h, x, y => by simp only [toPy, PyData.eqv]; exact eqv_iff_all (eqv_iff t h) x y
  | .tup t, h, x, y => by simp only [toPy, PyData.eqv]; exact eqv_iff_all (eqv_iff t h) x y
  | .si, h, x, y => by
    cases x with
    | inl i => cases y with
      | inl j =>
        simp only [toPy, PyData.eqv, beq_iff_eq]
        constructor
        · intro h; injection h with h; rw [List.toArray_inj h]
        · intro h; injection h with h; rw [h]
      | inr y => simp [toPy, PyData.eqv]
    | inr x => cases y with
      | inl j => simp [toPy, PyData.eqv]
      | inr y => simp [toPy, PyData.eqv]
  | .iu t, h, x, y => by
    cases x with
    | inl i => cases y with
      | inl j => simp [toPy, PyData.eqv]
      | inr y => simp [toPy, PyData.eqv]
    | inr x => cases y with
      | inl j => simp [toPy, PyData.eqv]
      | inr y =>
        simp only [toPy, PyData.eqv, Sum.inr.injEq]
        exact eqv_iff_all (eqv_iff t h) x y
  | .p2 a b, h, (x1, x2), (y1, y2) => by
    simp only [Ty.canEq, Bool.and_eq_true] at h
    simp [toPy, PyData.eqv, PyData.eqvAll, eqv_iff a h.1, eqv_iff b h.2]
  | .p3 a b c, h, (x1, x2, x3), (y1, y2, y3) => by
    simp only [Ty.canEq, Bool.and_eq_true] at h
    simp [toPy, PyData.eqv, PyData.eqvAll, eqv_iff a h.1.1, eqv_iff b h.1.2, eqv_iff c h.2]
  | .p4 a b c d, h, (x1, x2, x3, x4), (y1, y2, y3, y4) => by
    simp only [Ty.canEq, Bool.and_eq_true] at h
    simp [toPy, PyData.eqv, PyData.eqvAll, eqv_iff a h.1.1.1, eqv_iff b h.1.1.2, eqv_iff c h.1.2, eqv_iff d h.2]
  | .p5 a b c d e, h, (x1, x2, x3, x4, x5), (y1, y2, y3, y4, y5) => by
    simp only [Ty.canEq, Bool.and_eq_true] at h
    simp [toPy, PyData.eqv, PyData.eqvAll, eqv_iff a h.1.1.1.1, eqv_iff b h.1.1.1.2, eqv_iff c h.1.1.2, eqv_iff d h.1.2, eqv_iff e h.2]
theorem eqv_dec {t : Ty} [DecidableEq t.den] (h : t.canEq = true) (x y : t.den) : PyData.eqv (toPy t x) (toPy t y) = decide (x = y) := by
  by_cases e : x = y
  · rw [decide_eq_true e]; exact (eqv_iff t h x y).mpr e
  · rw [decide_eq_false e]
    cases q : PyData.eqv (toPy t x) (toPy t y) with
    | true => exact absurd ((eqv_iff t h x y).mp q) e
    | false => rfl
def Lay (t : Ty) (x : t.den) : Prop := (toPy t x).canLay0 = true
def Ty.noStr : Ty → Bool
  | .dat => false | .ex => true
  | .int => true | .bool => true | .str => false | .non => true
  | .scr => false | .si => false | .sm a b => a.noStr && b.noStr
  | .opt t => t.noStr | .lst t => t.noStr | .tup t => t.noStr | .iu t => t.noStr
  | .p2 a b => a.noStr && b.noStr
  | .p3 a b c => a.noStr && b.noStr && c.noStr
  | .p4 a b c d => a.noStr && b.noStr && c.noStr && d.noStr
  | .p5 a b c d e => a.noStr && b.noStr && c.noStr && d.noStr && e.noStr
theorem layAll {t : Ty} {xs : List t.den} : PyData.canLayAll0 (xs.map (toPy t)) = true ↔ ∀ x ∈ xs, Lay t x := by
  induction xs with
  | nil => simp [PyData.canLayAll0]
  | cons x xs ih => simp [PyData.canLayAll0, ih, Lay]
theorem lay_lst {t : Ty} {xs : List t.den} : Lay (.lst t) xs ↔ ∀ x ∈ xs, Lay t x := by unfold Lay; simp only [toPy, PyData.canLay0]; exact layAll
theorem lay_tup {t : Ty} {xs : List t.den} : Lay (.tup t) xs ↔ ∀ x ∈ xs, Lay t x := by unfold Lay; simp only [toPy, PyData.canLay0]; exact layAll
theorem lay_p2 {a b : Ty} {x : a.den × b.den} : Lay (.p2 a b) x ↔ Lay a x.1 ∧ Lay b x.2 := by simp [Lay, toPy, PyData.canLay0, PyData.canLayAll0]
theorem lay_p3 {a b c : Ty} {x : a.den × b.den × c.den} : Lay (.p3 a b c) x ↔ Lay a x.1 ∧ Lay b x.2.1 ∧ Lay c x.2.2 := by simp [Lay, toPy, PyData.canLay0, PyData.canLayAll0]
theorem lay_p4 {a b c d : Ty} {x : a.den × b.den × c.den × d.den} : Lay (.p4 a b c d) x ↔ Lay a x.1 ∧ Lay b x.2.1 ∧ Lay c x.2.2.1 ∧ Lay d x.2.2.2 := by simp [Lay, toPy, PyData.canLay0, PyData.canLayAll0]
theorem lay_p5 {a b c d e : Ty} {x : a.den × b.den × c.den × d.den × e.den} : Lay (.p5 a b c d e) x ↔ Lay a x.1 ∧ Lay b x.2.1 ∧ Lay c x.2.2.1 ∧ Lay d x.2.2.2.1 ∧ Lay e x.2.2.2.2 := by simp [Lay, toPy, PyData.canLay0, PyData.canLayAll0]
theorem lay_no : ∀ (t : Ty), t.noStr = true → ∀ x : t.den, Lay t x
  | .dat, h, _ => by cases h
  | .ex, _, _ => rfl
  | .int, _, _ => rfl
  | .bool, _, _ => rfl
  | .str, h, _ => by cases h
  | .scr, h, _ => by cases h
  | .non, _, _ => rfl
  | .opt t, h, none => rfl
  | .opt t, h, some y => lay_no t h y
  | .lst t, h, x => lay_lst.mpr fun y _ => lay_no t h y
  | .tup t, h, x => lay_tup.mpr fun y _ => lay_no t h y
  | .si, h, _ => by cases h
  | .sm a b, h, .inl y => lay_no a (by simp only [Ty.noStr, Bool.and_eq_true] at h; exact h.1) y
  | .sm a b, h, .inr y => lay_no b (by simp only [Ty.noStr, Bool.and_eq_true] at h; exact h.2) y
  | .iu t, h, .inl i => rfl
  | .iu t, h, .inr y => lay_tup (t := t).mpr fun z _ => lay_no t h z
  | .p2 a b, h, x => by
    simp only [Ty.noStr, Bool.and_eq_true] at h
    exact lay_p2.mpr ⟨lay_no a h.1 _, lay_no b h.2 _⟩
  | .p3 a b c, h, x => by
    simp only [Ty.noStr, Bool.and_eq_true] at h
    exact lay_p3.mpr ⟨lay_no a h.1.1 _, lay_no b h.1.2 _, lay_no c h.2 _⟩
  | .p4 a b c d, h, x => by
    simp only [Ty.noStr, Bool.and_eq_true] at h
    exact lay_p4.mpr ⟨lay_no a h.1.1.1 _, lay_no b h.1.1.2 _, lay_no c h.1.2 _, lay_no d h.2 _⟩
  | .p5 a b c d e, h, x => by
    simp only [Ty.noStr, Bool.and_eq_true] at h
    exact lay_p5.mpr ⟨lay_no a h.1.1.1.1 _, lay_no b h.1.1.1.2 _, lay_no c h.1.1.2 _, lay_no d h.1.2 _, lay_no e h.2 _⟩
theorem depAll {t : Ty} (f : ∀ x, (toPy t x).depth ≤ t.dep) : ∀ xs : List t.den, PyData.depthAll (xs.map (toPy t)) ≤ t.dep
  | [] => by simp [PyData.depthAll]
  | x :: xs => by
    have h1 := f x
    have h2 := depAll f xs
    simp only [List.map_cons, PyData.depthAll]
    omega
theorem depInts : ∀ xs : List Int, PyData.depthAll (xs.map fun z => PyData.int z) ≤ 0
  | [] => by simp [PyData.depthAll]
  | x :: xs => by have := depInts xs; simp only [List.map_cons, PyData.depthAll, PyData.depth]; omega
theorem dep_le : ∀ (t : Ty) (x : t.den), (toPy t x).depth ≤ t.dep
  | .dat, x => x.dp
  | .ex, _ => by simp [toPy, PyData.depth]
  | .int, _ => by simp [toPy, PyData.depth]
  | .bool, _ => by simp [toPy, PyData.depth]
  | .str, _ => by simp [toPy, PyData.depth]
  | .non, _ => by simp [toPy, PyData.depth]
  | .scr, x => by have := depInts x; simp only [toPy, PyData.depth, Ty.dep]; omega
  | .opt t, none => by simp [toPy, PyData.depth]
  | .opt t, some y => dep_le t y
  | .lst t, x => by have := depAll (dep_le t) x; simp only [toPy, PyData.depth, Ty.dep]; omega
  | .tup t, x => by have := depAll (dep_le t) x; simp only [toPy, PyData.depth, Ty.dep]; omega
  | .si, .inl i => by simp [toPy, PyData.depth]
  | .si, .inr i => by simp [toPy, PyData.depth]
  | .sm a b, .inl y => by have := dep_le a y; simp only [toPy, Ty.dep]; omega
  | .sm a b, .inr y => by have := dep_le b y; simp only [toPy, Ty.dep]; omega
  | .iu t, .inl i => by simp [toPy, PyData.depth]
  | .iu t, .inr x => by have := depAll (dep_le t) x; simp only [toPy, PyData.depth, Ty.dep]; omega
  | .p2 a b, x => by have h1 := dep_le a x.1; have h2 := dep_le b x.2; simp only [toPy, PyData.depth, PyData.depthAll, Ty.dep]; omega
  | .p3 a b c, x => by have h1 := dep_le a x.1; have h2 := dep_le b x.2.1; have h3 := dep_le c x.2.2; simp only [toPy, PyData.depth, PyData.depthAll, Ty.dep]; omega
  | .p4 a b c d, x => by have h1 := dep_le a x.1; have h2 := dep_le b x.2.1; have h3 := dep_le c x.2.2.1; have h4 := dep_le d x.2.2.2; simp only [toPy, PyData.depth, PyData.depthAll, Ty.dep]; omega
  | .p5 a b c d e, x => by have h1 := dep_le a x.1; have h2 := dep_le b x.2.1; have h3 := dep_le c x.2.2.1; have h4 := dep_le d x.2.2.2.1; have h5 := dep_le e x.2.2.2.2; simp only [toPy, PyData.depth, PyData.depthAll, Ty.dep]; omega
theorem shaped_of {t : Ty} {x : t.den} (h : Lay t x) (hd : t.dep ≤ 60) : SeqAt.shaped (toPy t x) = true := by
  show ((toPy t x).canLay0 && decide ((toPy t x).depth ≤ 64)) = true
  rw [Bool.and_eq_true]
  exact ⟨h, decide_eq_true (by have := dep_le t x; omega)⟩
section
variable {X : Cx} {a b e : Expr} {es : List Expr} {pos p : Pos} {Γ Γ1 Γ2 Γ3 : List Slot} {t u : Ty} {x y : t.den} {xs ys : List t.den}
theorem dc_ne {k : Nat} (hr : RoomG k X.A) (hl : Lay t x) (hl2 : Lay t y) [DecidableEq t.den] (ha : DE X a Γ t x Γ1) (hb : DE X b Γ1 t y Γ2) (he : t.canEq = true := by rfl) (hd : t.dep ≤ 60 := by decide) : DC X .NotEq a b Γ (!decide (x = y)) Γ2 := fun F G σ H W Q q =>
  wpc_of (pc_op (op_neD hr.units) pe_wp pe_wp) (ev_op (τ := .bool) (c := !decide (x = y)) ha hb (fun G H v w Q sg r1 r2 q => ⟨toPy t x, toPy t y, rep_dp sg t v x r1 hd, rep_dp sg t w y r2 hd, shaped_of hl hd, shaped_of hl2 hd, q _ (by rw [eqv_dec he]; rfl)⟩) F G σ H W Q q)
def rInQ (K : PySem.W.Frag) (neg : Bool) : R2 := fun x y H Q => ∃ d ds, Dp K H x d ∧ (Dp K H y (.list ds) ∨ Dp K H y (.tuple ds)) ∧ SeqAt.shaped d = true ∧ PyData.canLayAll0 ds = true ∧ Q (.bl (if neg then !ds.any (fun z => PyData.eqv z d) else ds.any fun z => PyData.eqv z d)) H
end
def ltL {α : Type} (eq lt : α → α → Bool) : List α → List α → Bool
  | [], [] => false
  | [], _ :: _ => true
  | _ :: _, [] => false
  | x :: xs, y :: ys => if eq x y = true then ltL eq lt xs ys else lt x y
def ltT : (t : Ty) → t.den → t.den → Bool
  | .int, x, y => decide (x < y)
  | .bool, x, y => decide (b2z x < b2z y)
  | .str, x, y => decide (x < y)
  | .non, _, _ => false
  | .opt _, _, _ => false
  | .lst t, x, y => ltL (fun a b => PyData.eqv (toPy t a) (toPy t b)) (ltT t) x y
  | .tup t, x, y => ltL (fun a b => PyData.eqv (toPy t a) (toPy t b)) (ltT t) x y
  | .p2 a b, x, y => if PyData.eqv (toPy a x.1) (toPy a y.1) = true then ltT b x.2 y.2 else ltT a x.1 y.1
  | .p3 a b c, x, y => if PyData.eqv (toPy a x.1) (toPy a y.1) = true then (if PyData.eqv (toPy b x.2.1) (toPy b y.2.1) = true then ltT c x.2.2 y.2.2 else ltT b x.2.1 y.2.1) else ltT a x.1 y.1
  | _, _, _ => false
def Ty.canLt : Ty → Bool
  | .int => true | .bool => true | .str => true
  | .lst t => t.canLt | .tup t => t.canLt
  | .p2 a b => a.canLt && b.canLt
  | .p3 a b c => a.canLt && b.canLt && c.canLt
  | _ => false
open PySem.W in
theorem alike_all {t : Ty} (f : ∀ x y : t.den, alike (toPy t x) (toPy t y) = true) : ∀ xs ys : List t.den, alikeAll (xs.map (toPy t)) (ys.map (toPy t)) = true
  | [], ys => by simp [alikeAll]
  | _ :: _, [] => by simp [alikeAll]
  | x :: xs, y :: ys => by simp [alikeAll, f x y, alike_all f xs ys]
open PySem.W in
theorem alike_of : ∀ (t : Ty), t.canLt = true → ∀ x y : t.den, alike (toPy t x) (toPy t y) = true
  | .int, _, _, _ => by simp [toPy, alike]
  | .bool, _, _, _ => by simp [toPy, alike]
  | .str, _, _, _ => by simp [toPy, alike]
  | .lst t, h, x, y => by simp only [toPy, alike]; exact alike_all (alike_of t h) x y
  | .tup t, h, x, y => by simp only [toPy, alike]; exact alike_all (alike_of t h) x y
  | .p2 a b, h, x, y => by
    simp only [Ty.canLt, Bool.and_eq_true] at h
    simp [toPy, alike, alikeAll, alike_of a h.1, alike_of b h.2]
  | .dat, h, _, _ => by cases h
  | .ex, h, _, _ => by cases h
  | .p3 a b c, h, x, y => by
    simp only [Ty.canLt, Bool.and_eq_true] at h
    simp [toPy, alike, alikeAll, alike_of a h.1.1, alike_of b h.1.2, alike_of c h.2]
  | .non, h, _, _ => by cases h
  | .opt _, h, _, _ => by cases h
  | .scr, h, _, _ => by cases h
  | .p4 .., h, _, _ => by cases h
  | .p5 .., h, _, _ => by cases h
  | .iu _, h, _, _ => by cases h
  | .sm _ _, h, _, _ => by cases h
  | .si, h, _, _ => by cases h
open PySem.W in
theorem lt_all {t : Ty} (hc : t.canLt = true) (f : ∀ x y : t.den, dataLt (toPy t x) (toPy t y) = ltT t x y) : ∀ xs ys : List t.den, PyProof.Rows.lexLt itemOrd (keyToksAll (xs.map (toPy t))) (keyToksAll (ys.map (toPy t))) = ltL (fun a b => PyData.eqv (toPy t a) (toPy t b)) (ltT t) xs ys
  | [], [] => lex_irrefl _
  | [], y :: ys => by
    simp only [List.map_nil, List.map_cons, keyToksAll, ltL]
    rw [lex_atom (by simp) [] _]
    rfl
  | x :: xs, [] => by
    simp only [List.map_nil, List.map_cons, keyToksAll, ltL]
    rw [lex_atom (by simp) _ []]
    rfl
  | x :: xs, y :: ys => by
    simp only [List.map_cons, ltL]
    rw [dataLt_cons (alike_of t hc x y), lt_all hc f xs ys, f x y]
open PySem.W in
theorem lt_irr {x y : PyData} (h : alike x y = true) (e : PyData.eqv x y = true) : dataLt x y = false := by
  unfold dataLt
  rw [(toks_eqv x y h).1 e]
  exact lex_irrefl _
open PySem.W in
theorem lt_data : ∀ (t : Ty), t.canLt = true → ∀ x y : t.den, dataLt (toPy t x) (toPy t y) = ltT t x y
  | .dat, h, _, _ => by cases h
  | .ex, h, _, _ => by cases h
  | .int, _, x, y => dataLt_int x y
  | .bool, _, x, y => by
    show dataLt (.bool x) (.bool y) = _
    rw [dataLt_bool]
    cases x <;> cases y <;> rfl
  | .str, _, x, y => dataLt_str _ _
  | .lst t, h, x, y => by
    show dataLt (.list _) (.list _) = _
    rw [dataLt_list]
    exact lt_all (t := t) h (lt_data t h) x y
  | .tup t, h, x, y => by
    show dataLt (.tuple _) (.tuple _) = _
    rw [dataLt_tuple]
    exact lt_all (t := t) h (lt_data t h) x y
  | .p2 a b, h, x, y => by
    simp only [Ty.canLt, Bool.and_eq_true] at h
    show dataLt (.tuple _) (.tuple _) = _
    rw [dataLt_tuple, dataLt_cons (alike_of a h.1 _ _), dataLt_cons (alike_of b h.2 _ _), lt_data a h.1, lt_data b h.2]
    have e : PyProof.Rows.lexLt itemOrd (keyToksAll []) (keyToksAll []) = false := lex_irrefl _
    rw [e]
    show _ = (if PyData.eqv (toPy a x.1) (toPy a y.1) = true then ltT b x.2 y.2 else ltT a x.1 y.1)
    by_cases h2 : PyData.eqv (toPy b x.2) (toPy b y.2) = true
    · rw [if_pos h2, ← lt_data b h.2, lt_irr (alike_of b h.2 _ _) h2]
    · rw [if_neg h2]
  | .p3 a b c, h, x, y => by
    simp only [Ty.canLt, Bool.and_eq_true] at h
    show dataLt (.tuple _) (.tuple _) = _
    rw [dataLt_tuple, dataLt_cons (alike_of a h.1.1 _ _), dataLt_cons (alike_of b h.1.2 _ _), dataLt_cons (alike_of c h.2 _ _), lt_data a h.1.1, lt_data b h.1.2, lt_data c h.2]
    have e : PyProof.Rows.lexLt itemOrd (keyToksAll []) (keyToksAll []) = false := lex_irrefl _
    rw [e]
    show _ = (if PyData.eqv (toPy a x.1) (toPy a y.1) = true then (if PyData.eqv (toPy b x.2.1) (toPy b y.2.1) = true then ltT c x.2.2 y.2.2 else ltT b x.2.1 y.2.1) else ltT a x.1 y.1)
    by_cases h2 : PyData.eqv (toPy c x.2.2) (toPy c y.2.2) = true
    · rw [if_pos h2, ← lt_data c h.2, lt_irr (alike_of c h.2 _ _) h2]
    · rw [if_neg h2]
  | .non, h, _, _ => by cases h
  | .opt _, h, _, _ => by cases h
  | .scr, h, _, _ => by cases h
  | .p4 .., h, _, _ => by cases h
  | .p5 .., h, _, _ => by cases h
  | .iu _, h, _, _ => by cases h
  | .sm _ _, h, _, _ => by cases h
  | .si, h, _, _ => by cases h
def leT (t : Ty) (x y : t.den) : Bool := !ltT t y x
def sortT (t : Ty) (xs : List t.den) : List t.den := xs.mergeSort (leT t)
open PySem.W in
theorem le_data {t : Ty} (h : t.canLt = true) : dataLe false (toPy t) = leT t := by
  funext x y
  show (!dataLt (toPy t y) (toPy t x)) = _
  rw [lt_data t h]
  rfl
def Ty.canSort : Ty → Bool
  | .p2 a b => a.canLt && b.canLt
  | .p3 a b c => a.canLt && b.canLt && c.canLt
  | .int => true | .bool => true | .str => true
  | .lst t => t.canLt
  | _ => false
theorem canLt_of {t : Ty} (h : t.canSort = true) : t.canLt = true := by
  cases t <;> first | exact h | cases h
open PySem.W in
theorem sortable {t : Ty} (h : t.canSort = true) (xs : List t.den) : Sortable (xs.map (toPy t)) := by
  cases t with
  | p2 a b => exact .tuples fun x => ⟨_, _, rfl⟩
  | p3 a b c => exact .tuples fun x => ⟨_, _, rfl⟩
  | int => exact .others fun x => ⟨fun z => (by simp [toPy] at z), fun ys z => (by simp [toPy] at z)⟩
  | bool => exact .others fun x => ⟨fun z => (by simp [toPy] at z), fun ys z => (by simp [toPy] at z)⟩
  | str => exact .others fun x => ⟨fun z => (by simp [toPy] at z), fun ys z => (by simp [toPy] at z)⟩
  | lst t => exact .others fun x => ⟨fun z => (by simp [toPy] at z), fun ys z => (by simp [toPy] at z)⟩
  | _ => cases h
section
variable {X : Cx} {a b e : Expr} {es : List Expr} {pos p : Pos} {Γ Γ1 Γ2 Γ3 : List Slot} {t u : Ty} {x y : t.den} {xs ys : List t.den}
open PySem.W in
theorem each_of {K : PySem.W.Frag} {G : Hp} : ∀ {vs : List V} {xs : List t.den} {us : List Value}, RepL K t G vs xs → Vals vs us → EachIs (fun u x => ∃ v, RelV v u ∧ Rep K t G v x) us xs
  | _, _, _, .nil, .nil => .nil
  | _, _, _, .cons r t, .cons r' t' => .cons ⟨_, r', r⟩ (each_of t t')
open PySem.W in
theorem each_back {K : PySem.W.Frag} {G : Hp} : ∀ {us : List Value} {xs : List t.den}, EachIs (fun u x => ∃ v, RelV v u ∧ Rep K t G v x) us xs → ∃ vs, RepL K t G vs xs ∧ Vals vs us
  | _, _, .nil => ⟨[], .nil, .nil⟩
  | _, _, .cons r t => by
    obtain ⟨v, h1, h2⟩ := r
    obtain ⟨vs, h3, h4⟩ := each_back t
    exact ⟨v :: vs, .cons h2 h3, .cons h1 h4⟩
def rSortD (K : PySem.W.Frag) (t : Ty) : List V → Hp → VK → Prop := fun vs H Q => ∃ (a : Addr) (us : List V) (G : Hp) (xs : List t.den), vs = [V.ref a] ∧ SqL K H a us ∧ Same G H ∧ RepL K t G us xs ∧ Sz xs.length ∧
  ∀ (ws : List V) (p : Addr), RepL K t G ws (sortT t xs) → H p = none → Q (.ref p) (upd H p (.lst ws))
open PySem.W in
theorem cr_sortD {k : Nat} (hr : RoomG k X.A) (hc : t.canSort = true) (hd : t.dep ≤ 60) : CallR X (.builtin "sorted") (rSortD X.K t) := by
  intro pins s σ H vs us Q I r h
  obtain ⟨a, vs1, G, xs, rfl, hs, sg, rep, hz, q⟩ := h
  obtain ⟨its, rv, hl, _⟩ := I.list hs
  rw [Vals.ref1 r]
  have ee := each_of rep rv
  have hb := canLt_of hc
  refine sorted_data (vs := its) (R := fun u x => ∃ v, RelV v u ∧ Rep X.K t G v x) (enc := toPy t) (bs := xs) hl.isList ee (ee.mono fun u x ⟨v, h1, h2⟩ => Dp.reads I _ v u (rep_dp sg t v x h2 hd) h1) (AllAlike.of (alike_of t hb)) (sortable hc xs) hz.le
    (fun b _ => by
      have h1 := hr.units
      have h2 := dep_le t b
      omega) fun out hlen ho => ?_
  rw [le_data hb] at ho
  obtain ⟨ws, h1, h2⟩ := each_back ho
  obtain ⟨ep, he'⟩ := PyProof.Rows.sortedAll_at s.heap its (List.toArray out)
  have hwl : ws.length ≤ sizeLine := by
    have e1 := pair_len h1
    rw [e1, List.length_mergeSort]; exact hz.le
  exact ⟨.ref _, upd H (s.heap.objs.size + 1) (.lst ws), I.laid (t' := s.toks) (fun _ _ => PyProof.Rows.sortedAll_old) (Nat.le_succ _) ⟨hwl, out, ep, h2, he'⟩, rfl, q ws _ h1 (I.hok.fresh (Nat.le_succ _))⟩
def rLtD (K : PySem.W.Frag) (t : Ty) : R2 := fun x y H Q => ∃ (d e : t.den), Dp K H x (toPy t d) ∧ Dp K H y (toPy t e) ∧ Q (.bl (ltT t d e)) H
open PySem.W in
theorem op_ltD {k : Nat} (hr : RoomG k X.A) (hc : t.canLt = true) (hd : t.dep ≤ 60) : OpR X (compareOp .Lt) (rLtD X.K t) := by
  intro pins s σ H x y v u Q I rx ry h
  obtain ⟨d, e, h1, h2, q⟩ := h
  obtain ⟨as, r1⟩ := Dp.reads I _ x v h1 rx
  obtain ⟨bs, r2⟩ := Dp.reads I _ y u h2 ry
  have hne : toPy t d ≠ .none := by
    cases t <;> first | (simp [toPy]; done) | cases hc
  have key := rcLt_alike (toPy t d) (toPy t e) X.A s v u as bs r1 r2 (alike_of t hc d e) hne (by
    have h1 := hr.units
    have h2 := dep_le t d
    omega)
  show wpAny _ _ (richCompare .Lt v u) _ _ _
  exact key _ _ _ _ ⟨.bl _, H, I, rfl, by rw [lt_data t hc]; exact q⟩
end
end Dn
set_option Elab.async false
set_option linter.all false
set_option maxRecDepth 100000
set_option maxHeartbeats 1000000
namespace Dn
open PySem PySem.Spec PyProof.Rows L2 TL
variable [Tb0]
section
variable {K : PySem.W.Frag} {F : Fx} {G H : Hp} {σ : L2.St} {Γ : List Slot} {i : Nat} {t : Ty} {xs xs' : List t.den} {pin : Bool}
theorem Wd.mutate {p : Addr} {vs' : List V} (W : Wd K F G σ H Γ) (hi : Γ[i]? = some (.ow pin (.lst t xs))) (hp : σ[i]? = some (some (.ref p))) (r : RepL K t G vs' xs') : Wd K F G σ (upd H p (.lst vs')) (Γ.set i (.ow pin (.lst t xs'))) := by
  obtain ⟨b, ho, e1, e2, e3, e4, e5, e6⟩ := W.sl i _ hi
  rw [hp] at e1; cases e1
  refine W.callB hi hp (Same.refl G) (fun c o e => ?_) (kpB_upd W.tb e4 (own_nt e5)) (fun c o _ _ n => n) upd_same ⟨vs', rfl, r⟩
  · rw [upd_ne (ne_of_none e e2)]; exact W.gh c o e
theorem Wd.owned (W : Wd K F G σ H Γ) (hi : Γ[i]? = some (.ow pin (.lst t xs))) : ∃ p vs, σ[i]? = some (some (.ref p)) ∧ H p = some (.lst vs) ∧ RepL K t G vs xs := by
  obtain ⟨b, ho, e1, e2, e3, e4, e5, e6⟩ := W.sl i _ hi
  obtain ⟨vs, rfl, r⟩ := e5
  exact ⟨b, vs, e1, e4, r⟩
theorem Wd.owName (W : Wd K F G σ H Γ) (h0 : (Γ[i]?.map Slot.isLst) = some true) : ∃ p, σ[i]? = some (some (.ref p)) := by
  cases e : Γ[i]? with
  | none => rw [e] at h0; cases h0
  | some s =>
    cases s with
    | ow pin o => obtain ⟨p, _, h1, _⟩ := W.sl i _ e; exact ⟨p, h1⟩
    | _ => rw [e] at h0; cases h0
end
section
variable {X : Cx} {ρ : Type} {R : RI ρ} {a b e : Expr} {es : List Expr} {pos p cpos apos npos : Pos} {Γ Γ1 Γ2 Γ3 : List Slot} {t u : Ty} {xs ys : List t.den} {n : Str}
theorem ds_setix (i : Nat) {pin : Bool} {k : Int} {x : t.den} {tpos : Pos} {ke : Expr} (hk : IxOk xs.length k) (he : DE X e Γ t x Γ1) (hke : DE X ke Γ1 .int k Γ2) (h : Γ2[i]? = some (.ow pin (.lst t xs)) := by rfl) (h0 : (Γ1[i]?.map Slot.isLst) = some true := by rfl) (hN : X.N[i]? = some n := by rfl) (hv : Vis X.env.scope n := by first | exact Or.inl rfl | exact Or.inr (Or.inl rfl) | exact Or.inr (Or.inr rfl))
    (hd : (n == ("__debug__" : Str)) = false := by decide) (hcd : (n == ("__classdict__" : Str)) = false := by decide)
    (ha : ∀ v, assign (.Subscript (.Name n npos) ke tpos) X.env v = (do
      let ov ← holding [v] (eval (.Name n npos) X.env)
      let iv ← holding [v, ov] (eval ke X.env)
      standAt tpos
      holding [v, ov, iv] (setItem ov iv v)
      release [v, ov, iv] []) := by intro _; rfl)
    (hs : swapsWithSole [.Subscript (.Name n npos) ke tpos] e pos.line X.env = pure false := by rfl) (hw : swappedStores [.Subscript (.Name n npos) ke tpos] e X.env = pure none := by rfl) (h1 : (assignEach [.Subscript (.Name n npos) ke tpos] X.env).map (·.2) = [assign (.Subscript (.Name n npos) ke tpos) X.env] := by rfl) :
    DS X R (.Assign [.Subscript (.Name n npos) ke tpos] e pos) Γ (.nx (Γ2.set i (.ow pin (.lst t (xs.set (ix xs.length k) x))))) := fun F G σ H W D q =>
  wps_of (ps_asg pe_wp (pg_sub (pe_var hN hv hd hcd) pe_wp set_list ha) hs hw h1) (he F G σ H W _ fun v G1 H1 s1 W1 r1 => by
    obtain ⟨p, hp⟩ := W1.owName h0
    refine ⟨.ref p, hp, hke F G1 σ H1 W1 _ fun w G2 H2 s2 W2 r2 => ?_⟩
    obtain ⟨p', vs, e1, e2, e3⟩ := W2.owned h
    rw [hp] at e1; cases e1
    obtain ⟨e4, e5⟩ := ixN_ok hk
    exact ⟨p, vs, k, ix xs.length k, rfl, r2, e2, by rw [pair_len e3]; exact e4, q σ G2 _ (s1.trans s2) (W2.mutate h hp (pair_set (rep_mono s2 t v x r1) _ e3))⟩)
def joinS (s : List Nat) (xs : List (List Nat)) : List Nat := joinL s xs
def SzJ (s : List Nat) (xs : List (List Nat)) : Prop := (xs.map List.length).sum + xs.length * s.length ≤ 100000
def sfind (x y : List Nat) : Option Nat := (List.range (x.length + 1)).find? fun i => (x.drop i).take y.length == y
def findZ (x y : List Nat) : Int := match sfind x y with
  | some i => (i : Int)
  | none => -1
def Ty.pyName : Ty → Option String
  | .dat => none | .ex => none
  | .int => some "int" | .bool => some "bool" | .str => some "str" | .non => some "NoneType"
  | .opt _ => none | .iu _ => none | .si => none | .sm _ _ => none
  | .scr => none
  | .lst _ => some "list"
  | _ => some "tuple"
end
end Dn
set_option Elab.async false
set_option linter.all false
set_option maxRecDepth 100000
set_option maxHeartbeats 1000000
namespace Dn
open PySem PySem.Spec PyProof.Rows L2 TL
variable [Tb0]
section
variable {X : Cx} {a b e : Expr} {pos : Pos} {Γ Γ1 Γ2 : List Slot} {xs : List Int}
theorem repL_ints {K : PySem.W.Frag} {G : Hp} : ∀ (xs : List Int), RepL K .int G (xs.map V.int) xs
  | [] => .nil
  | _ :: xs => .cons rfl (repL_ints xs)
theorem dl_scr (h : DE X e Γ .scr xs Γ1) : DL X e Γ .int xs Γ1 := fun F G σ H W Q q => h F G σ H W Q fun v G' H' s W' r => by
  obtain ⟨a, rfl, h1⟩ := r
  exact q a _ G' H' s W' (sql_mono W'.gh h1) (repL_ints xs)
theorem de_ixR {i : Int} (hi : IxOk xs.length i) (ha : DE X a Γ .scr xs Γ1) (hb : DE X b Γ1 .int i Γ2) (hs : PlainIx b := by exact fun _ _ => rfl) : DE X (.Subscript a b pos) Γ .int (get 0 xs i) Γ2 := fun F G σ H W Q q =>
  wpe_of (pe_ix ix_list pe_wp pe_wp hs) (ev_op (t := .scr) (τ := .int) (c := get 0 xs i) ha hb (fun G H v w Q sg r1 r2 q => by
    obtain ⟨p, rfl, h1⟩ := r1
    obtain ⟨v, e1, e2⟩ := at_ok (t := .int) (K := X.K) (G := G) 0 (repL_ints xs) hi
    exact ⟨p, _, i, v, rfl, r2, sql_mono sg h1, e1, q v e2⟩) F G σ H W Q q)
end
def Lp.done {S ρ : Type} (r : Lp S ρ) (k : S → Prop) : Prop := match r with
  | .go s => k s
  | .stop s => k s
  | .ret _ => True
section
variable {X : Cx} {ρ : Type} {R : RI ρ} {st : Stmt} {rest : List Stmt} {Γ Γ1 Γ2 : List Slot} {o o' o1 o2 o1' o2' : Out ρ}
theorem cont_lpP {S : Type} {r : Lp S ρ} {k k' : S → Out ρ} (P : S → Prop) (hP : r.done P) (h : ∀ s, P s → Cont X R (k s) rest (k' s)) : Cont X R (.lp r k) rest (.lp r k') := fun F D G q => by
  cases r with
  | go s => exact h s hP F D G q
  | stop s => exact h s hP F D G q
  | ret x => exact q
end
theorem rets_rt {ρ : Type} {x : ρ} : (Out.rt x).Rets := trivial
theorem rets_br {ρ : Type} {b : Bool} {o1 o2 : Out ρ} (h1 : o1.Rets) (h2 : o2.Rets) : (Out.br b o1 o2).Rets := ⟨h1, h2⟩
theorem rets_lp {ρ S : Type} {r : Lp S ρ} {k : S → Out ρ} (h : ∀ s, (k s).Rets) : (Out.lp r k).Rets := h
structure Cl (P : Program) (w : World) (K : PySem.W.Frag) (mg : Str → Option Value) (base : Heap) (k : Nat) (n : Str) (ps : List Str) (sp : Sp) : Prop where
  ex : ∃ (f : Addr) (fd : FuncData), FnG P w K mg base k f fd ps sp ∧ mg n = some (.ref f) ∧ PySem.W.keepIn K (.ref f) = true ∧ Binds K fd ps []
section
variable {X : Cx} {ps : List Str} {sp : Sp} {k : Nat} {n : Str} {p pos : Pos} {e : Expr} {es : List Expr} {Γ Γ1 : List Slot} {as : List Arg} {t : Ty} {x : t.den} {o y y' : Own}
theorem cl_call (C : Cl X.prog X.w X.K X.mg X.base k n ps sp) (hr : RoomG k X.A)
    (hsp : ∀ vs H Q, Pm0 X.K as (.fr t x) vs H Q E0 → sp vs H Q E0) (ha : DA X (e :: es) Γ as Γ1) (hf : as.all Arg.isFr = true := by rfl)
    (hg : Gl X n := by rfl) (hdb : (n == ("__debug__" : Str)) = false := by decide) (he : starEach (e :: es) X.env = (false, eval e X.env) :: starEach es X.env := by rfl) (hpl : (backTo pos (starEach es X.env)).any (·.1) = false := by rfl) :
    DE X (.Call (.Name n p) (e :: es) [] pos) Γ t x Γ1 := by
  obtain ⟨f, fd, F, hm, hk, hb⟩ := C.ex
  exact de_call F hr hm hk hb hsp ha hf hg hdb he hpl
theorem clo_call (C : Cl X.prog X.w X.K X.mg X.base k n ps sp) (hr : RoomG k X.A)
    (hsp : ∀ vs H Q, Pm0 X.K as (.ow o) vs H Q E0 → sp vs H Q E0) (ha : DA X (e :: es) Γ as Γ1) (hf : as.all Arg.isFr = true := by rfl)
    (hg : Gl X n := by rfl) (hdb : (n == ("__debug__" : Str)) = false := by decide) (he : starEach (e :: es) X.env = (false, eval e X.env) :: starEach es X.env := by rfl) (hpl : (backTo pos (starEach es X.env)).any (·.1) = false := by rfl) :
    DO X (.Call (.Name n p) (e :: es) [] pos) Γ o Γ1 := by
  obtain ⟨f, fd, F, hm, hk, hb⟩ := C.ex
  exact do_call F hr hm hk hb hsp ha hf hg hdb he hpl
theorem cl_callB (i : Nat) {pin : Bool} (C : Cl X.prog X.w X.K X.mg X.base k n ps sp) (hr : RoomG k X.A)
    (hsp : ∀ vs H Q, Pm1 X.K y y' as (.fr t x) vs H Q E0 → sp vs H Q E0) (ha : DA X (e :: es) Γ (.bx i :: as) Γ1) (hi : Γ1[i]? = some (.ow pin y) := by rfl) (hf : as.all Arg.isFr = true := by rfl)
    (hg : Gl X n := by rfl) (hdb : (n == ("__debug__" : Str)) = false := by decide) (he : starEach (e :: es) X.env = (false, eval e X.env) :: starEach es X.env := by rfl) (hpl : (backTo pos (starEach es X.env)).any (·.1) = false := by rfl) :
    DE X (.Call (.Name n p) (e :: es) [] pos) Γ t x (Γ1.set i (.ow pin y')) := by
  obtain ⟨f, fd, F, hm, hk, hb⟩ := C.ex
  exact de_callB i F hr hm hk hb hsp ha hi hf hg hdb he hpl
end
theorem pm0_len {K : PySem.W.Frag} {as : List Arg} {r : Ret} {vs : List V} {H : Hp} {Q : VK} {E : XK} (h : Pm0 K as r vs H Q E) : vs.length = as.length := by
  obtain ⟨G, _, p, _⟩ := h
  exact pair_len p
theorem pm1_len {K : PySem.W.Frag} {y y' : Own} {as : List Arg} {r : Ret} {vs : List V} {H : Hp} {Q : VK} {E : XK} (h : Pm1 K y y' as r vs H Q E) : vs.length = as.length + 1 := by
  obtain ⟨G, b, ho, vs', rfl, _, _, _, _, p, _⟩ := h
  have := pair_len p
  simp only [List.length_cons]
  omega
theorem entry {K : PySem.W.Frag} {H : Hp} {a : Addr} {ns : List Int} (hS : SqL K H a (ns.map V.int)) (hT : ∀ p ∈ Tb0.ts, H p.1 = some (.tbl #[])) : Pm0 K [.fr .scr ns] (.fr .bool true) [.ref a] H (fun v _ => v = .bl true) fun _ _ _ => False := by
  have tb : ∀ G : Hp, (∀ p ∈ Tb0.ts, G p.1 = none) → TbOk G H := fun G g p m => ⟨g p m, #[], hT p m, trivial, fun pos cv e => by simp [codeAmong] at e⟩
  have yes : (∀ ps, H a ≠ some (.tbl ps)) → ∀ hS' : SqL K (fun c => if c = a then H a else none) a (ns.map V.int), Pm0 K [.fr .scr ns] (.fr .bool true) [.ref a] H (fun v _ => v = .bl true) fun _ _ _ => False := fun n hS' =>
    ⟨fun c => if c = a then H a else none, ⟨(fun c o e => by
      by_cases h : c = a
      · simp only [h, if_true] at e ⊢
        exact e
      · simp only [if_neg h] at e
        cases e), tb _ fun p m => if_neg (fun z => n #[] (by rw [← z]; exact hT p m))⟩, .cons ⟨a, rfl, hS'⟩ .nil, fun v G' H' _ _ _ _ r => r⟩
  rcases hS with (h | ⟨o, h⟩) | h
  · exact yes (fun ps z => by rw [h] at z; cases z) (.inl (.inl (by simpa using h)))
  · exact yes (fun ps z => by rw [h] at z; cases z) (.inl (.inr ⟨o, by simpa using h⟩))
  · exact ⟨fun _ => none, ⟨(fun c o e => by cases e), tb _ fun _ _ => rfl⟩, .cons ⟨a, rfl, .inr h⟩ .nil, fun v G' H' _ _ _ _ r => r⟩
instance {j : Int} : Decidable (DivOk j) := inferInstanceAs (Decidable (_ ∧ _))
instance {i j : Int} : Decidable (MulOk i j) := inferInstanceAs (Decidable (_ < _))
instance {i : Nat} : Decidable (Sz i) := inferInstanceAs (Decidable (_ ≤ _))
instance {i : Int} : Decidable (RngOk i) := inferInstanceAs (Decidable (_ ∧ _))
instance {n : Nat} {i : Int} : Decidable (IxOk n i) := inferInstanceAs (Decidable (_ ∧ _))
section
variable {X : Cx} {a b e : Expr} {pos : Pos} {Γ Γ1 Γ2 Γ3 : List Slot} {S : Type}
variable {ρ : Type} {R : RI ρ}
theorem ds_frz (i : Nat) {st : Stmt} {t : Ty} {xs : List t.den} (h : DS X R st Γ (.nx Γ1)) (hi : Γ1[i]? = some (.ow false (.lst t xs)) := by rfl) : DS X R st Γ (.nx (Γ1.set i (.fr (.lst t) xs))) :=
  ds_join (S := Unit) (fun _ => Γ1.set i (.fr (.lst t) xs)) (s := ()) h (.nx (ent_frz i hi))
theorem ds_joinE {o o' : Out ρ} {st : Stmt} (Γs : S → List Slot) (s : S) (e : o' = .nx (Γs s)) (h : DS X R st Γ o) (k : Nx X.K Γs o s) : DS X R st Γ o' := by subst e; exact ds_join Γs h k
end
section
variable {X : Cx} {S α : Type} {tg iter elt : Expr} {ifs : List Expr} {scope : Scope} {g : TG} {pos : Pos} {Γ Γ1 : List Slot} {ys : List α} {B : α → List Slot → List Slot} {tgs : List Nat} {t : Ty}
theorem lcq_map (own : List (Str × Nat)) {P : α → Prop} {h : α → t.den} (hi : DI X tg iter g Γ ys B tgs Γ1) (hg : ∀ (sh : Shared) (H : Hp) (C : Addr) (cl : List (Str × Addr)) (fp : List Addr), PG (X.blk sh H scope (compEnvC scope cl C X.env) fp) tg g) (hz : Sz ys.length) (hP : ∀ y ∈ ys, P y)
    (hb : ∀ y, P y → ∃ x Γe, (∀ (sh : Shared) (H : Hp) (C : Addr) (cl : List (Str × Addr)) (fp : List Addr), DE (X.blk sh H scope (compEnvC scope cl C X.env) fp) elt (B y Γ1) t x Γe) ∧ Wk Γe Γ1 ∧ x = h y)
    (ok : BlkOk X.N X.env.scope scope own) (hw : wipeS Γ1 (own.map (·.2)) = Γ1 := by rfl) (htg : ∀ i ∈ tgs, i ∈ own.map (·.2) := by decide) : LcOk X elt tg iter [] scope Γ (.lst t (ys.map h)) Γ1 :=
  lc_map own hi hg hz hP (fun y p => by obtain ⟨x, Γe, a, b, c⟩ := hb y p; subst c; exact ⟨Γe, b, a⟩) ok hw htg
theorem lcq_mapS (own : List (Str × Nat)) (Γs : S → List Slot) (s0 : S) {P : S → α → Prop} {f : S → α → t.den × S} (hi : DI X tg iter g Γ ys B tgs Γ1) (h0 : Γ1 = Γs s0) (hg : ∀ (sh : Shared) (H : Hp) (C : Addr) (cl : List (Str × Addr)) (fp : List Addr), PG (X.blk sh H scope (compEnvC scope cl C X.env) fp) tg g) (hz : Sz ys.length) (hP : AllS P f s0 ys)
    (hb : ∀ s y, P s y → ∃ x s' Γe, (∀ (sh : Shared) (H : Hp) (C : Addr) (cl : List (Str × Addr)) (fp : List Addr), DE (X.blk sh H scope (compEnvC scope cl C X.env) fp) elt (B y (Γs s)) t x Γe) ∧ Wk Γe (Γs s') ∧ (x, s') = f s y)
    (ok : BlkOk X.N X.env.scope scope own) (hw : ∀ s, wipeS (Γs s) (own.map (·.2)) = Γs s := by intro _; rfl) (htg : ∀ i ∈ tgs, i ∈ own.map (·.2) := by decide) : LcOk X elt tg iter [] scope Γ (.lst t (mapS f s0 ys).1) (Γs (mapS f s0 ys).2) := by
  subst h0
  refine lc_mapS own Γs hi hg hz hP (fun s y p => ?_) ok hw htg
  obtain ⟨x, s', Γe, a, b, c⟩ := hb s y p
  rw [← c]
  exact ⟨Γe, b, a⟩
end
end Dn
set_option Elab.async false
set_option linter.all false
set_option maxRecDepth 100000
set_option maxHeartbeats 1000000
namespace Dn
open PySem PySem.Spec PyProof.Rows L2 TL
variable [Tb0]
theorem cont_let1 {X : Cx} {ρ : Type} {R : RI ρ} {rest : List Stmt} {o' : Out ρ} {A1 : Type} {Γ : List Slot} {of : A1 → Out ρ} (Γs : A1 → List Slot) (a1 : A1) (P : A1 → Prop) (hP : P a1) (e : Γ = Γs a1) (h : ∀ b1, P b1 → DSs X R rest (Γs b1) (of b1)) (e2 : o' = of a1) : Cont X R (.nx Γ) rest o' := by
  subst e; subst e2; exact cont_nx (h a1 hP)
theorem cont_let2 {X : Cx} {ρ : Type} {R : RI ρ} {rest : List Stmt} {o' : Out ρ} {A1 A2 : Type} {Γ : List Slot} {of : A1 → A2 → Out ρ} (Γs : A1 → A2 → List Slot) (a1 : A1) (a2 : A2) (P : A1 → A2 → Prop) (hP : P a1 a2) (e : Γ = Γs a1 a2) (h : ∀ b1 b2, P b1 b2 → DSs X R rest (Γs b1 b2) (of b1 b2)) (e2 : o' = of a1 a2) : Cont X R (.nx Γ) rest o' := by
  subst e; subst e2; exact cont_nx (h a1 a2 hP)
end Dn
set_option Elab.async false
set_option linter.all false
set_option maxRecDepth 100000
set_option maxHeartbeats 1000000
namespace Dn
open PySem PySem.Spec PyProof.Rows L2 TL
variable [Tb0]
section
variable {K : PySem.W.Frag} {F : Fx} {G H : Hp} {σ : L2.St} {Γ : List Slot} {i : Nat} {t : Ty} {xss : List (List t.den)}
def ext (T : Hp) (as : List Addr) : Hp := fun c => if c ∈ as then some (.lst []) else T c
end
section
variable {X : Cx} {ρ : Type} {R : RI ρ} {Γ Γ1 : List Slot} {e ie : Expr} {pos npos apos cpos ipos : Pos} {t : Ty} {xss : List (List t.den)} {n : Str}
end
section
variable {X : Cx} {ρ : Type} {R : RI ρ} {α : Type} {ys : List α} {t : Ty} {Γ : List Slot} {tg iter : Expr} {scope : Scope} {g : TG} {B : α → List Slot → List Slot} {tgs : List Nat} {pos lpos : Pos}
end
end Dn
set_option Elab.async false
set_option linter.all false
set_option maxRecDepth 100000
set_option maxHeartbeats 1000000
namespace Dn
open PySem PySem.Spec PyProof.Rows L2 TL
variable [Tb0]
theorem allMem_nil {α : Type} {P : α → Prop} : ∀ y ∈ ([] : List α), P y := fun y h => by cases h
theorem allMem_cons {α : Type} {P : α → Prop} {a : α} {l : List α} (h : P a) (t : ∀ y ∈ l, P y) : ∀ y ∈ a :: l, P y := fun y m => by
  rcases List.mem_cons.mp m with rfl | m
  · exact h
  · exact t y m
def Ty.noLst : Ty → Bool
  | .dat => false | .ex => false
  | .int => true | .bool => true | .str => true | .non => true | .scr => false | .si => true | .sm a b => a.noLst && b.noLst
  | .opt t => t.noLst | .lst _ => false | .tup t => t.noLst | .iu t => t.noLst
  | .p2 a b => a.noLst && b.noLst | .p3 a b c => a.noLst && b.noLst && c.noLst | .p4 a b c d => a.noLst && b.noLst && c.noLst && d.noLst | .p5 a b c d e => a.noLst && b.noLst && c.noLst && d.noLst && e.noLst
def del (G : Hp) (p : Addr) : Hp := fun c => if c = p then none else G c
theorem del_ne {G : Hp} {p c : Addr} (h : c ≠ p) : del G p c = G c := if_neg h
theorem del_same {G : Hp} {p : Addr} : del G p p = none := if_pos rfl
section
variable {K : PySem.W.Frag}
inductive Bw : List Slot → List Slot → Prop where
  | nil : Bw [] []
  | un {l m : List Slot} (h : Bw l m) : Bw (.un :: l) (.un :: m)
  | gone {s : Slot} {l m : List Slot} (h : Bw l m) : Bw (s :: l) (.un :: m)
  | fr {t : Ty} {x : t.den} {l m : List Slot} (h : Bw l m) : Bw (.fr t x :: l) (.fr t x :: m)
  | ow {pin : Bool} {t : Ty} {xs ys : List t.den} {l m : List Slot} (n : t.noLst = true) (h : Bw l m) : Bw (.ow pin (.lst t xs) :: l) (.ow pin (.lst t ys) :: m)
theorem Bw.get {l m : List Slot} (h : Bw l m) : ∀ (i : Nat) (s : Slot), m[i]? = some s → s = .un ∨ (∃ t x, s = .fr t x ∧ l[i]? = some (.fr t x)) ∨ (∃ pin t xs ys, t.noLst = true ∧ s = .ow pin (.lst t ys) ∧ l[i]? = some (.ow pin (.lst t xs))) := by
  induction h with
  | nil => intro i s e; simp at e
  | un _ ih => intro i s e; cases i with
    | zero => exact .inl (by simpa using e.symm)
    | succ i => simpa using ih i s (by simpa using e)
  | gone _ ih => intro i s e; cases i with
    | zero => exact .inl (by simpa using e.symm)
    | succ i => simpa using ih i s (by simpa using e)
  | @fr t x _ _ _ ih => intro i s e; cases i with
    | zero => exact .inr (.inl ⟨t, x, by simpa using e.symm, rfl⟩)
    | succ i => simpa using ih i s (by simpa using e)
  | @ow pin t xs ys _ _ n _ ih => intro i s e; cases i with
    | zero => exact .inr (.inr ⟨pin, t, xs, ys, n, by simpa using e.symm, rfl⟩)
    | succ i => simpa using ih i s (by simpa using e)
theorem Bw.len {l m : List Slot} (h : Bw l m) : l.length = m.length := by
  induction h with
  | nil => rfl
  | un _ ih => simp [ih]
  | gone _ ih => simp [ih]
  | fr _ ih => simp [ih]
  | ow _ _ ih => simp [ih]
end
section
variable {X : Cx} {Γ Γ1 Γ2 : List Slot} {a b e : Expr} {pos : Pos} {t : Ty}
def Ty.solid2 : Ty → Bool
  | .non => false | .opt _ => false | .sm _ _ => false | .dat => false | .ex => false | _ => true
def unopt {α : Type} (d : α) (x : Option α) : α := x.getD d
end
theorem whileN_le {S : Type} {Pc P : S → Prop} {c : S → Bool} {f : S → S} : ∀ {n m : Nat} {s : S}, OkW Pc P c f n s → OkW Pc P c f m s → whileN c f n s = whileN c f m s
  | 0, 0, _, _, _ => rfl
  | 0, m + 1, s, h, _ => by simp [whileN, h.2]
  | n + 1, 0, s, _, h => by simp [whileN, h.2]
  | n + 1, m + 1, s, h, h' => by
    simp only [whileN]
    cases e : c s with
    | false => rfl
    | true => exact whileN_le (h.2 e).2 (h'.2 e).2
def EndW {S : Type} (c : S → Bool) (f : S → S) (s : S) : Prop := ∃ n, OkW (fun _ => True) (fun _ => True) c f n s
theorem okW_end {S : Type} {Pc P : S → Prop} {c : S → Bool} {f : S → S} : ∀ {n : Nat} {s : S}, OkW Pc P c f n s → OkW (fun _ => True) (fun _ => True) c f n s
  | 0, _, h => ⟨trivial, h.2⟩
  | _ + 1, _, h => ⟨trivial, fun e => ⟨trivial, okW_end (h.2 e).2⟩⟩
open Classical in
noncomputable def whileV {S : Type} (c : S → Bool) (f : S → S) (s : S) : S := if h : EndW c f s then whileN c f (Classical.choose h) s else s
theorem whileV_eq {S : Type} {Pc P : S → Prop} {c : S → Bool} {f : S → S} {n : Nat} {s : S} (h : OkW Pc P c f n s) : whileV c f s = whileN c f n s := by
  have e : EndW c f s := ⟨n, okW_end h⟩
  unfold whileV
  rw [dif_pos e]
  exact whileN_le (Classical.choose_spec e) (okW_end h)
def AllW {S : Type} (Pc P : S → Prop) (c : S → Bool) (f : S → S) (s : S) : Prop := ∃ n, OkW Pc P c f n s
section
variable {X : Cx} {ρ S : Type} {R : RI ρ} {tc : Expr} {body : List Stmt} {pos : Pos} {Γ : List Slot} {Pc P : S → Prop}
end
section
variable {X : Cx} {Γ Γ1 Γ2 : List Slot} {a b : Expr} {pos apos : Pos}
def tTI (K : PySem.W.Frag) (to : TE) (tb : TA) : TE := fun σ H Q => to σ H fun x H1 => ∃ (p : Addr) (o : Obj) (ys : List V), x = .ref p ∧ H1 p = some (.frz o (.tup ys)) ∧ o.dict = none ∧
  tb σ H1 fun us H2 => ∃ (zs : List Str) (z : Str) (j : Nat), us = [.str z] ∧ SqT K H2 p (zs.map V.str) ∧ zs[j]? = some z ∧ (∀ m, m < j → zs[m]? ≠ some z) ∧ Q (.int (j : Nat)) H2
def idx {α : Type} [DecidableEq α] (xs : List α) (x : α) : Nat := xs.findIdx fun y => decide (y = x)
end
end Dn
set_option Elab.async false
set_option linter.all false
set_option maxRecDepth 100000
set_option maxHeartbeats 1000000
namespace Dn
open PySem PySem.Spec PyProof.Rows L2 TL
variable [Tb0]
section
variable {X : Cx} {Γ Γ1 Γ2 : List Slot} {a b e tg : Expr} {pos p : Pos} {t u : Ty} {g : TG} {tgs : List Nat}
def minL (xs : List Int) : Int := xs.foldl (fun a b => if b < a then b else a) (xs.headD 0)
theorem zip_get {α β : Type} {xs : List α} {ys : List β} {i : Nat} {y : α × β} (h : (List.zip xs ys)[i]? = some y) : xs[i]? = some y.1 ∧ ys[i]? = some y.2 := by
  rw [List.zip, List.getElem?_zipWith] at h
  cases e1 : xs[i]? with
  | none => rw [e1] at h; cases h
  | some x =>
    cases e2 : ys[i]? with
    | none => rw [e1, e2] at h; cases h
    | some z => rw [e1, e2] at h; cases h; exact ⟨rfl, rfl⟩
theorem zip_len {α β : Type} {xs : List α} {ys : List β} : (List.zip xs ys).length = min xs.length ys.length := by simp
theorem di_zipL {elts : List Expr} {kk : Nat} {tpos : Pos} {xs : List t.den} {ys : List u.den} {B : t.den × u.den → List Slot → List Slot} (hm : X.mg "zip" = none) (ha : DE X a Γ (.lst t) xs Γ1) (hb : DE X b Γ1 (.lst u) ys Γ2) (hg : EvG X.K g (.p2 t u) B tgs) (hgl : Gl X "zip" := by rfl)
    (hs : starEach [a, b] X.env = (false, eval a X.env) :: starEach [b] X.env := by rfl) (hs2 : starEach [b] X.env = (false, eval b X.env) :: starEach [] X.env := by rfl) (hpl : (backTo pos (starEach [b] X.env)).any (·.1) = false := by rfl) :
    DI X (.Tuple elts kk tpos) (.Call (.Name "zip" p) [a, b] [] pos) g Γ (List.zip xs ys) B tgs Γ2 := fun F G σ H W R q =>
  wpi_of (RZ.pi_zipA hgl hm (pa_cons pe_wp (pa_cons pe_wp pa_nil hs2) hs) hs hpl) (ha F G σ H W _ fun v G1 H1 s1 W1 r1 => hb F G1 σ H1 W1 _ fun w G2 H2 s2 W2 r2 => by
    obtain ⟨p1, vs, rfl, h1, h2⟩ := r1
    obtain ⟨p2, ws, rfl, h3, h4⟩ := r2
    have h2 := repL_mono s2 h2
    have h1 := rd_mono s2 h1
    have e1 := pair_len h2
    have e2 := pair_len h4
    have ql : ∀ {H' : Hp}, Same G2 H' → SqL X.K H' p1 vs ∧ SqL X.K H' p2 ws := fun s => ⟨.inl (rd_mono s h1), .inl (rd_mono s h3)⟩
    refine ⟨p1, p2, vs, ws, rfl, .inl ⟨(ql W2.gh).1, (ql W2.gh).2, q _ G2 H2 (s1.trans s2) W2 ⟨fun i G3 H3 s3 s4 hi => ?_, fun G3 H3 s3 s4 => ⟨vs, ws, (ql (s3.trans s4)).1, (ql (s3.trans s4)).2, ?_⟩, fun F i y G3 σ3 H3 Γ3 v H4 Q s3 W3 hy y' k => ?_⟩⟩⟩
    · rw [zip_len] at hi
      exact ⟨vs, ws, vs[i]'(by omega), ws[i]'(by omega), (ql (s3.trans s4)).1, (ql (s3.trans s4)).2, List.getElem?_eq_getElem (by omega), List.getElem?_eq_getElem (by omega)⟩
    · rw [zip_len]; omega
    · obtain ⟨T, x1, x2, rfl, nT, rfl, f1, f2⟩ := y'
      have f1 := f1 vs (ql (s3.trans W3.gh)).1
      have f2 := f2 ws (ql (s3.trans W3.gh)).2
      obtain ⟨g1, g2⟩ := zip_get hy
      obtain ⟨v1, e4, e5⟩ := pair_get h2 g1
      rw [f1] at e4; cases e4
      obtain ⟨v2, e6, e7⟩ := pair_get h4 g2
      rw [f2] at e6; cases e6
      have sm := same_upd (o := .tup [x1, x2]) (W3.gn nT)
      exact hg F _ σ3 _ Γ3 (.ref T) y (W3.newG nT) ⟨T, x1, x2, rfl, upd_same, rep_mono (s3.trans sm) t x1 y.1 e5, rep_mono (s3.trans sm) u x2 y.2 e7⟩ Q fun σ' a' W4 => k _ σ' _ sm a' W4)
end
end Dn
set_option Elab.async false
set_option linter.all false
set_option maxRecDepth 100000
set_option maxHeartbeats 1000000
namespace Dn
open PySem PySem.Spec PyProof.Rows L2 TL
variable [Tb0]
theorem head_G {P : Program} {w : World} {K : PySem.W.Frag} {mg mb : Str → Option Value} {k : Nat} {fa a : Addr} {fd : FuncData} {x : Str} {sp : Sp} {s : Shared} {vs : List Value} {ns : List Int}
    (inK : K.In s.heap) (globals : s.heap.Ns mainGlobals mg) (blt : s.heap.Ns builtinsNs mb) (boot : ∀ x : Str, x ≠ "__name__" → mb x = bootBuiltins x) (nolim : s.heap.NoLimit) (gens : s.gens = #[])
    (obj : s.heap.get? a = some { cls := .type "list", data := .seq vs.toArray }) (hin : IntsAre vs ns) (few : ns.length ≤ sizeLine) (room : RoomG k callerA)
    (F : ∀ base : Heap, K.In base → base.Ns mainGlobals mg → FnG P w K mg base k fa fd [x] sp) (binds : ∀ (s : Shared) (u : Value), BindsTo s fd ⟨[u], []⟩ [(x, u)])
    (hsp : ∀ H : Hp, Only H → SqL K H a (ns.map V.int) → sp [.ref a] H (fun v _ => v = .bl true) fun _ _ _ => False) :
    codeAny (model P w) callerA (.call (.ref fa) ⟨[.ref a], []⟩) (fun r s' => r = .ok (.ret (.bool true)) ∧ OldK s.heap s'.heap ∧ s'.os = s.os ∧ AllBare s'.gens) s := by
  have rel := vals_ints hin
  have key : ∃ H : Hp, (∀ b u, H b = some u → b = a ∧ K.lookup a = none ∧ u = .frz { cls := .type "list", data := .seq vs.toArray } (.lst (ns.map V.int))) ∧ SqL K H a (ns.map V.int) := by
    cases lk : K.lookup a with
    | some o =>
      have e := inK a o lk
      rw [obj] at e
      cases e
      exact ⟨fun _ => none, fun b u z => (by cases z), .inr ⟨_, vs.toArray, _, lk, rfl, rfl, rfl, by rw [List.size_toArray, hin.length]; exact few, by simpa using rel⟩⟩
    | none =>
      refine ⟨fun b => if b = a then some (.frz { cls := .type "list", data := .seq vs.toArray } (.lst (ns.map V.int))) else none, fun b u z => ?_, .inl (.inr ⟨{ cls := .type "list", data := .seq vs.toArray }, if_pos rfl⟩)⟩
      by_cases c : b = a
      · have z : (if b = a then some (HO.frz { cls := .type "list", data := .seq vs.toArray } (.lst (ns.map V.int))) else none) = some u := z
        rw [if_pos c] at z
        exact ⟨c, rfl, (Option.some.inj z).symm⟩
      · have z : (if b = a then some (HO.frz { cls := .type "list", data := .seq vs.toArray } (.lst (ns.map V.int))) else none) = some u := z
        rw [if_neg c] at z; cases z
  obtain ⟨H, only, sq⟩ := key
  have nsOk : ∀ {b : Addr} {m : Str → Option Value}, s.heap.Ns b m → (hidT s.heap H).Ns b m := fun {b m} ⟨o, es, ep, e, d, r⟩ => ⟨o, es, ep, hidT_get e (by
    cases z : H b with
    | none => rfl
    | some u =>
      obtain ⟨rfl, _⟩ := only b u z
      rw [obj] at e; cases e
      have d' : Data.seq vs.toArray _ = Data.dict es ep := d
      cases d'), d, r⟩
  have kIn : K.In (hidT s.heap H) := fun b o e => hidT_get (inK b o e) (by
    cases z : H b with
    | none => rfl
    | some u =>
      obtain ⟨rfl, n, _⟩ := only b u z
      rw [n] at e; cases e)
  have hok : HOk P w H s.heap := fun b u z => by
    obtain ⟨rfl, _, rfl⟩ := only b u z
    exact ⟨obj, by rw [List.length_map]; exact few, vs, _, rel, obj⟩
  have e0 : Env0 P w K mg (hidT s.heap H) callerA [] s H :=
    ⟨rfl, ⟨kIn, nsOk globals, ⟨mb, nsOk blt, boot⟩, let ⟨mc, h1, h2⟩ := nolim; ⟨mc, nsOk h1, h2⟩⟩, fun b o e => of_hidT e, Nat.le_of_eq (hidT_size _ _), trivial, fun b hb => absurd (show b ∈ ([] : List Addr) from hb) (by simp), hok, .of_eq gens⟩
  refine codeAny_mono ((F _ kIn (nsOk globals)).run callerA [] s H ⟨[.ref a], []⟩ [.ref a] [.ref a] _ _ room e0 (binds s (.ref a)) (.cons rfl .nil) (hsp H (fun b => by
    cases z : H b with
    | none => exact .inl rfl
    | some u => obtain ⟨_, _, rfl⟩ := only b u z; exact .inr ⟨_, _, rfl⟩) sq)) fun r s' out => ?_
  cases r with
  | error e => exact False.elim out
  | ok fl =>
    cases fl with
    | next => exact False.elim out
    | brk => exact False.elim out
    | cont => exact False.elim out
    | ret u =>
      obtain ⟨v, H', os, bare, un, hok', rv, q⟩ := out
      obtain rfl : v = V.bl true := q
      obtain rfl : u = Value.bool true := rv
      refine ⟨rfl, OldK.of_keep fun b o e => ?_, os, bare⟩
      cases z : H b with
      | none => exact un.keep b o e z (by intro z'; exact absurd (show b ∈ ([] : List Addr) from z') (by simp)) (by simp)
      | some u =>
        obtain ⟨_, _, rfl⟩ := only b u z
        obtain ⟨e1, _⟩ := hok b _ z
        obtain ⟨e2, _⟩ := hok' b _ (un.frzs b _ _ z)
        rw [e] at e1; cases e1
        exact e2
theorem walk_ofG {l : PySem.W.OpenLaw} {n k : Nat} {q : Program} {loose : List Str} {XP : (Str → Option Value) → Heap → Prop} {YP : World → Heap → Prop} {d : DefRec} {K : Params → PySem.W.Frag} {sp : World → Sp} {x : Str}
    (hn : l.most = some n) (hn2 : n ≤ sizeLine) (hdf : d.params.defaults = []) (hr : RoomG k callerA)
    (hY : ∀ (w : World) (h : Heap), YP w h → (K w.params).In h)
    (F : ∀ (w : World) (mg : Str → Option Value) (fa : Addr) (h : Heap), (K w.params).In h → h.Ns mainGlobals mg → mg d.name = some (.ref fa) →
      ∃ fd : FuncData, (∀ (s : Shared) (u : Value), BindsTo s fd ⟨[u], []⟩ [(x, u)]) ∧
        ∀ base : Heap, (K w.params).In base → base.Ns mainGlobals mg → FnG l.prog w (K w.params) mg base k fa fd [x] (sp w))
    (hsp : ∀ (w : World) (H : Hp) (a : Addr) (ns : List Int), ns.length ≤ n → (∀ z ∈ ns, Builtin.Int.intBits z ≤ 1048576) → Only H → SqL (K w.params) H a (ns.map V.int) → sp w [.ref a] H (fun v _ => v = .bl true) fun _ _ _ => False) :
    PySem.W.WalkO q loose XP YP l.row.toRowW d [] (fun f vs => PySem.call f vs) := by
  refine Att.attach_callB hn hdf fun w s₀ s₁ mg mb fa o pm cd doc a vs ns G Y ho hd hcd hmg hobj hints hlen hbits hg => ?_
  obtain ⟨fd, hb, hF⟩ := F w mg fa _ (hY w _ Y) G.T.g hmg
  exact head_G (hY w _ Y) G.T.g G.T.b G.T.builtins G.T.nolimit hg hobj hints (Nat.le_trans hlen hn2) hr hF hb fun H hO hS => hsp w H a ns hlen hbits hO hS
def Ty.disp : Ty → Bool
  | .lst _ => true | .tup _ => true | .p2 _ _ => true | .p3 _ _ _ => true | .p4 _ _ _ _ => true | .p5 _ _ _ _ _ => true | _ => false
theorem noDict_all {α : Type} {f : α → PyData} (h : ∀ x, (f x).hasDict = false) : ∀ xs : List α, PyData.hasDictAll (xs.map f) = false
  | [] => rfl
  | x :: xs => by
    show (PyData.hasDict (f x) || PyData.hasDictAll (xs.map f)) = false
    rw [h x, noDict_all h xs]; rfl
theorem noDict : ∀ (t : Ty) (x : t.den), (toPy t x).hasDict = false
  | .dat, x => x.nd
  | .ex, _ => rfl
  | .int, _ => rfl
  | .bool, _ => rfl
  | .str, _ => rfl
  | .non, _ => rfl
  | .scr, x => noDict_all (f := fun z => PyData.int z) (fun _ => rfl) x
  | .opt t, none => rfl
  | .opt t, some y => noDict t y
  | .lst t, x => noDict_all (noDict t) x
  | .tup t, x => noDict_all (noDict t) x
  | .si, .inl i => rfl
  | .si, .inr i => rfl
  | .sm a _, .inl y => noDict a y
  | .sm _ b, .inr y => noDict b y
  | .iu t, .inl i => rfl
  | .iu t, .inr x => noDict_all (noDict t) x
  | .p2 a b, x => by simp only [toPy, PyData.hasDict, PyData.hasDictAll, noDict a, noDict b, Bool.or_false]
  | .p3 a b c, x => by simp only [toPy, PyData.hasDict, PyData.hasDictAll, noDict a, noDict b, noDict c, Bool.or_false]
  | .p4 a b c d, x => by simp only [toPy, PyData.hasDict, PyData.hasDictAll, noDict a, noDict b, noDict c, noDict d, Bool.or_false]
  | .p5 a b c d e, x => by simp only [toPy, PyData.hasDict, PyData.hasDictAll, noDict a, noDict b, noDict c, noDict d, noDict e, Bool.or_false]
@[irreducible] def reprL (t : Ty) (x : t.den) : List Nat := (toPy t x).shown.cps.toList
def ReprOk (t : Ty) (x : t.den) : Prop := (toPy t x).showable = true ∧ (toPy t x).shown.length ≤ sizeLine
section
variable {X : Cx} {Γ Γ1 : List Slot} {e : Expr} {pos p : Pos} {t : Ty} {x : t.den}
theorem ref_of {h : Heap} {u : Value} {t : Ty} {x : t.den} {as : List Addr} (hd : t.disp = true) (r : Reads h u (toPy t x) as) : ∃ a, u = .ref a := by
  cases t with
  | lst t => revert r; simp only [toPy]; intro r; cases r; exact ⟨_, rfl⟩
  | tup t => revert r; simp only [toPy]; intro r; cases r; exact ⟨_, rfl⟩
  | p2 a b => revert r; simp only [toPy]; intro r; cases r; exact ⟨_, rfl⟩
  | p3 a b c => revert r; simp only [toPy]; intro r; cases r; exact ⟨_, rfl⟩
  | p4 a b c d => revert r; simp only [toPy]; intro r; cases r; exact ⟨_, rfl⟩
  | p5 a b c d e => revert r; simp only [toPy]; intro r; cases r; exact ⟨_, rfl⟩
  | _ => cases hd
open PySem.W in
def rReprD (K : PySem.W.Frag) (t : Ty) : List V → Hp → VK → Prop := fun vs H Q => ∃ (v : V) (x : t.den), vs = [v] ∧ Dp K H v (toPy t x) ∧ ReprOk t x ∧ Q (.str (toPy t x).shown) H
open PySem.W in
theorem cr_reprD {k : Nat} (hr : RoomG k X.A) (hd : t.disp = true) (hp : t.dep ≤ 60) : CallR X (.builtin "repr") (rReprD X.K t) := by
  intro pins s σ H vs us Q I r h
  obtain ⟨v, x, rfl, hv, ok, q⟩ := h
  obtain ⟨u, rfl, ru⟩ : ∃ u, us = [u] ∧ RelV v u := by
    cases r with
    | cons r r' => cases r'; exact ⟨_, rfl, r⟩
  obtain ⟨as, rd⟩ := Dp.reads I (toPy t x) v u hv ru
  obtain ⟨a, rfl⟩ := ref_of hd rd
  exact repr_of_reads' rd ok.1 (fun z => by rw [noDict] at z; cases z) hr.g (by
    have h1 := hr.units
    have h2 := dep_le t x
    omega) (fun _ _ e => e) (fun h' u tk hk => ⟨.str _, H, I.kept (t' := tk) hk, ⟨_, rfl⟩, q⟩) ok.2
end
end Dn
set_option Elab.async false
set_option linter.all false
set_option maxRecDepth 100000
set_option maxHeartbeats 1000000
namespace Dn
open PySem PySem.Spec PyProof.Rows L2 TL
variable [Tb0]
def dget {α : Type} (kvs : List (Int × α)) (k : Int) : Option α := (kvs.find? fun p => decide (p.1 = k)).map (·.2)
def dput {α : Type} (kvs : List (Int × α)) (k : Int) (y : α) : List (Int × α) :=
  if (kvs.any fun p => decide (p.1 = k)) = true then kvs.map (fun p => if p.1 = k then (p.1, y) else p) else kvs ++ [(k, y)]
abbrev RepD (K : PySem.W.Frag) (t : Ty) (G : Hp) (ws : List (Key × V)) (kvs : List (Int × t.den)) : Prop := Paired (fun (w : Key × V) (y : Int × t.den) => w.1 = Sum.inl y.1 ∧ Rep K t G w.2 y.2) ws kvs
section
variable {K : PySem.W.Frag} {G : Hp} {t : Ty}
end
section
variable {K : PySem.W.Frag} {F : Fx} {G H : Hp} {σ : L2.St} {Γ : List Slot} {i : Nat} {pin : Bool} {t : Ty} {kvs kvs' : List (Int × t.den)}
end
section
variable {X : Cx} {a b e : Expr} {pos p pos' npos : Pos} {Γ Γ1 Γ2 : List Slot} {t : Ty} {kvs : List (Int × t.den)} {n : Str} {ρ : Type} {R : RI ρ}
end
end Dn
set_option Elab.async false
set_option linter.all false
set_option maxRecDepth 100000
set_option maxHeartbeats 1000000
namespace Rv
open PySem PySem.Spec PyProof.Rows RT
section
variable {prog : Program} {w : World} {A : Around} {E : Value → Shared → Prop} {s : Shared}
end
end Rv
namespace Rv
open PySem PySem.Spec PyProof.Rows RT L2
def tTupRevT (K : PySem.W.Frag) (te : TE) : TE := fun σ H Q => te σ H fun v H1 => ∃ (a : Addr) (xs : List V), v = .ref a ∧ SqT K H1 a xs ∧ ∀ (q : Addr) (o : Obj), H1 q = none → o.dict = none → Q (.ref q) (upd H1 q (.frz o (.tup xs.reverse)))
section
variable {X : Cx}
end
end Rv
namespace Dn
open PySem PySem.Spec PyProof.Rows L2
variable [Tb0]
section
variable {X : Cx} {e : Expr} {p p2 pos pos2 : Pos} {Γ Γ1 : List Slot} {t : Ty} {xs : List t.den}
end
end Dn
set_option Elab.async false
set_option linter.all false
set_option maxRecDepth 100000
set_option maxHeartbeats 4000000
namespace Ss
open PySem PySem.Spec PyProof.Rows L2
section
variable {P : Program} {w : World} {A : Around} {E : Value → Shared → Prop} {s : Shared}
set_option maxRecDepth 100000 in
set_option maxHeartbeats 3200000 in
theorem call_set_lstI {l : Addr} {items : Array Value} (ns : List Int) {Q : Value → Shared → Prop} (hh : A.handled = none) (hl : s.heap.IsList l items) (hit : IntsAre items.toList ns) (hb : ns.length + 1 < scanBound)
    (h : ∀ (h' : Heap) (tk c : Nat), SetR w h' s.heap.objs.size (fun j => decide (j ∈ ns)) c → c ≤ ns.length → (∀ b o, s.heap.get? b = some o → h'.get? b = some o) → Q (.ref s.heap.objs.size) { s with heap := h', toks := tk }) :
    wpAny (model P w) A (call (.type "set") [.ref l]) Q E s := by
  have hisz : items.size = ns.length := by
    have q := IntsAre.length hit
    rw [Array.length_toList] at q
    exact q
  obtain ⟨c, tl, hmro⟩ := F.called_set.mro
  have hmade := F.called_set.made
  have hsub := F.called_set.sub
  refine wpAny_call (codeAny_of_tree ?_)
  show wpAny _ _ (callAny (.type "set") _) _ _ _
  refine wpAny_pure ⟨Code.quiet_builtin _ (by decide +kernel), codeAny_builtin F.entry_type_call ?_⟩
  rw [Around.under_plain (weight_type_call_type "set" [.ref l] []) rfl]
  have h1 := F.called_set.notType
  have h2 := F.called_set.canCreate
  have hct := F.typeCall_set_1 (.ref l)
  repeat (any_goals (first | assumption | wp_step))

  refine codeAny_mono (code_set_led1 (.ref l) (E := E) (Q₁ := fun obj s₁ => obj = .ref s.heap.objs.size ∧ s₁ = { s with heap := s.heap.push { cls := .type "set", dict := none, data := .set #[] 0 (.fresh 0 0 (!w.params.followText "set-order")) } }) ⟨rfl, rfl⟩) fun r s₁ hr => ?_
  cases r with
  | error e => exact hr
  | ok fl =>
    cases fl with
    | ret obj =>
      obtain ⟨rfl, rfl⟩ := hr
      have hS : (s.heap.push { cls := .type "set", dict := none, data := .set #[] 0 (.fresh 0 0 (!w.params.followText "set-order")) }).get? s.heap.objs.size = some { cls := .type "set", dict := none, data := .set #[] 0 (.fresh 0 0 (!w.params.followText "set-order")) } := Heap.get?_push_size _ rfl
      have hT : Shared.TypeIs { s with heap := s.heap.push { cls := .type "set", dict := none, data := .set #[] 0 (.fresh 0 0 (!w.params.followText "set-order")) } } (.ref s.heap.objs.size) "set" := ⟨_, hS, rfl⟩
      have hli := F.called_set.init.lookup
      have hbi := F.called_set.init.bind (.ref s.heap.objs.size)
      repeat (any_goals (first | assumption | wp_step))

      refine codeAny_mono (codeAny_call_builtin (R := wants (fun r s₂ => r = .none ∧ ∃ h' tk c, s₂ = { s with heap := h', toks := tk } ∧ SetR w h' s.heap.objs.size (fun j => decide (j ∈ ns)) c ∧ c ≤ ns.length ∧
          (∀ b o, s.heap.get? b = some o → h'.get? b = some o)) E) F.called_set.init.plain F.entry_set_init (check_set_init_1 hT ?_)) fun r₂ s₂ hr₂ => ?_
      · obtain ⟨ol, hol, hcl, nl, hdl⟩ := hl
        obtain ⟨ocls, odict, odata, oslots⟩ := ol
        simp only at hcl hdl
        subst hcl; subst hdl
        have hol' : (s.heap.push { cls := .type "set", dict := none, data := .set #[] 0 (.fresh 0 0 (!w.params.followText "set-order")) }).get? l = some { cls := .type "list", dict := odict, data := .seq items nl, slots := oslots } := Heap.get?_push_of_some _ hol
        have hsls := F.sub_list_set
        have hslf := F.sub_list_frozenset
        have hne : (Value.type "list" == Value.type "dict") = false := by decide
        have hl1 : (s.heap.push { cls := .type "set", dict := none, data := .set #[] 0 (.fresh 0 0 (!w.params.followText "set-order")) }).IsList l items := ⟨_, hol', rfl, nl, rfl⟩
        unfold Builtin.«set.__init__» noKeywords Builtin.Frozenset.updateFrom
        generalize hPI : pyIter = PI
        wp_walk
        subst hPI

        refine wpAny_pyIter_list hl1 ?_
        refine wpAny_bind (wpAny_runValue ?_)
        have hlS : l < s.heap.objs.size := Heap.lt_size hol
        have hh3 : A.in1.in1.in1.handled = none := by simp [hh]
        have hz1 : (s.heap.push { cls := .type "set", dict := none, data := .set #[] 0 (.fresh 0 0 (!w.params.followText "set-order")) }).objs.size = s.heap.objs.size + 1 := Heap.size_push ..
        have hneI : l ≠ (s.heap.push { cls := .type "set", dict := none, data := .set #[] 0 (.fresh 0 0 (!w.params.followText "set-order")) }).objs.size := by
          rw [Heap.size_push]; exact Nat.ne_of_lt (Nat.lt_succ_of_lt hlS)
        have hSf : s.heap.objs.size ∉ [(s.heap.push { cls := .type "set", dict := none, data := .set #[] 0 (.fresh 0 0 (!w.params.followText "set-order")) }).objs.size, l] := by
          rw [Heap.size_push]; simp only [List.mem_cons, List.mem_singleton, List.not_mem_nil, or_false, not_or]
          exact ⟨Nat.ne_of_lt (Nat.lt_succ_self _), Nat.ne_of_gt hlS⟩
        have hval : ∀ (i : Nat) (v : Value), items[i]? = some v → ∃ k t, ns[i]? = some k ∧ v = .int k t := fun i v hv => by
          have hi : i < ns.length := by rw [← hisz]; exact (Array.getElem?_eq_some_iff.mp hv).1
          obtain ⟨t, e⟩ := PyProof.Rows.IntsAre.int_at hit i v (by rw [Array.getElem?_toList]; exact hv)
          refine ⟨ns[i], t, List.getElem?_eq_getElem hi, ?_⟩
          rw [e, List.getD_eq_getElem?_getD, List.getElem?_eq_getElem hi] <;> rfl
        refine set_update_ints ((Walks.list hh3 _ l hneI items).toS) s.heap.objs.size
          hSf ns hisz hb hval (items.size - 0) 0 _ (by omega) (Nat.zero_le _)
          ⟨⟨_, Heap.get?_push_size _ rfl, rfl, rfl⟩, (hl1.push _)⟩ ?hS0 ?hR
        case hS0 =>
          have hget : ((s.heap.push { cls := .type "set", dict := none, data := .set #[] 0 (.fresh 0 0 (!w.params.followText "set-order")) }).push { cls := .type "list_iterator", data := .fields #[.ref l, .int 0 0] }).get? s.heap.objs.size
              = some { cls := .type "set", dict := none, data := .set #[] 0 (.fresh 0 0 (!w.params.followText "set-order")) } := Heap.get?_push_of_some _ hS
          exact ⟨0, Nat.le_refl 0, setR_new_at hget⟩
        case hR =>
          intro s' c' hm hc' hS'
          obtain ⟨h', g2, d', tk', os'⟩ := s'
          have eg : g2 = s.gens := hm.gens
          have ed : d' = s.drawn := hm.drawn
          have eo : os' = s.os := hm.os
          subst eg; subst ed; subst eo
          show wpAny _ _ _ _ _ _
          refine wpAny_pure ?_
          show wpAny _ _ (ret Value.none) _ _ _
          rw [hisz] at hc'
          refine wpAny_pure ⟨rfl, h', tk', c', rfl, hS', hc', fun b o e => ?_⟩
          have hb0 : b < s.heap.objs.size := Heap.lt_size e
          have hb1 : b ≠ s.heap.objs.size := Nat.ne_of_lt hb0
          have hb2 : b ≠ (s.heap.push { cls := .type "set", dict := none, data := .set #[] 0 (.fresh 0 0 (!w.params.followText "set-order")) }).objs.size := by
            rw [Heap.size_push]; exact Nat.ne_of_lt (Nat.lt_succ_of_lt hb0)
          exact hm.heap b o (by simp only [List.mem_cons, List.mem_singleton, List.not_mem_nil, or_false, not_or]; exact ⟨hb1, hb2⟩) (Heap.get?_push_of_some _ (Heap.get?_push_of_some _ e))

      · cases r₂ with
        | error e => exact hr₂
        | ok fl₂ =>
          cases fl₂ with
          | ret r =>
            obtain ⟨rfl, h', tk, c', rfl, hS', hc', hk'⟩ := hr₂
            repeat (any_goals (first | assumption | wp_step))
            exact h _ _ _ hS' hc' hk'
          | _ => exact hr₂.elim
    | _ => exact hr.elim
end
end Ss
namespace Ss
open PySem PySem.Spec PyProof.Rows L2
def ins (k : Int) : List Int → List Int
  | [] => [k]
  | x :: l => if k < x then k :: x :: l else if k = x then x :: l else x :: ins k l
def sset (xs : List Int) : List Int := xs.foldr ins []
theorem mem_ins {k j : Int} : ∀ {l : List Int}, j ∈ ins k l ↔ j = k ∨ j ∈ l
  | [] => by simp [ins]
  | x :: l => by
    unfold ins
    split
    · simp
    · split
      · rename_i h; subst h; simp
      · rw [List.mem_cons, List.mem_cons, mem_ins (l := l)]
        exact ⟨fun h => by rcases h with h | h | h <;> simp [h], fun h => by rcases h with h | h | h <;> simp [h]⟩
section
variable {X : Cx}
def rSetL (K : PySem.W.Frag) (w : World) : List V → Hp → VK → Prop := fun vs H Q => ∃ (p : Addr) (ns : List Int), vs = [.ref p] ∧ SqL K H p (ns.map V.int) ∧ ns.length ≤ 4000 ∧ ∀ a, H a = none → Q (.ref a) (upd H a (SetO w a (fun j => decide (j ∈ ns)) (sset ns).length))
end
end Ss
namespace Dn
open PySem PySem.Spec PyProof.Rows L2 Ss
variable [Tb0]
section
variable {X : Cx} {e : Expr} {p p2 pos pos2 : Pos} {Γ Γ1 : List Slot} {xs : List Int}
def SsOk (xs : List Int) : Prop := xs.length ≤ 4000 ∧ (sset xs).length < 64
end
end Dn
set_option Elab.async false
set_option linter.all false
set_option maxRecDepth 100000
set_option maxHeartbeats 4000000
namespace PySem
open Sem (wp)
open AutoSeq1 (wpAny_loadPart')
theorem Et.meets_new (l : Addr) (items : Array Value) (n : Nat) (dct : Option Addr) (sl : Array (Option Value)) :
    Meets (Builtin.«enumerate.__new__» ⟨[.type "enumerate", .ref l], []⟩) (fun _ R s => s.heap.get? l = some { cls := .type "tuple", dict := dct, data := .seq items n, slots := sl } ∧
      R (.ok (.ret (.ref (s.heap.push { cls := .type "tuple_iterator", data := .fields #[.ref l, .int 0 0] }).objs.size)))
        { s with heap := (s.heap.push { cls := .type "tuple_iterator", data := .fields #[.ref l, .int 0 0] }).push { cls := .type "enumerate", data := .fields #[.none, .bool false, .ref s.heap.objs.size, rawInt 0, .none, .none] } }) :=
  .of_wp fun prog w A R s h => by
    obtain ⟨hp, g, d, tk, os⟩ := s; obtain ⟨hl, h⟩ := h
    have hsub := sub_enumerate
    have hL : Heap.IsTuple (Shared.heap ⟨hp, g, d, tk, os⟩) l items := ⟨_, hl, rfl, n, rfl⟩
    wp_walk using wpAny_loadPart' hl
    refine wpAny_stack_any fun st => wpAny_pure ?_
    split
    · rename_i c _ _ _ _ _
      cases (c == Value.type "enumerate")
      · wp_walk using wpAny_loadPart' hl, wpAny_pyIter_tuple hL
        exact ⟨_, rfl, h⟩
      · wp_walk using wpAny_loadPart' hl, wpAny_pyIter_tuple hL
        exact ⟨_, rfl, h⟩
    · wp_walk using wpAny_loadPart' hl, wpAny_pyIter_tuple hL
      exact ⟨_, rfl, h⟩
section
variable {prog : Program} {w : World} {A : Around} {E : Value → Shared → Prop} {s : Shared}
theorem Et.call {l : Addr} {items : Array Value} {Q : Value → Shared → Prop} (hL : s.heap.IsTuple l items)
    (h : ∀ h', IsEnum h' (s.heap.objs.size + 1) s.heap.objs.size 0 .none → h'.IsTupleIter s.heap.objs.size l 0 → h'.objs.size = s.heap.objs.size + 2 →
      (∀ b o, s.heap.get? b = some o → h'.get? b = some o) → Q (.ref (s.heap.objs.size + 1)) { s with heap := h' }) :
    wpAny (model prog w) A (call (.type "enumerate") [.ref l]) Q E s := by
  obtain ⟨⟨c, dct, dt, sl⟩, hl, hc, n, hd⟩ := hL
  replace hc : c = .type "tuple" := hc
  replace hd : dt = .seq items n := hd
  subst hc hd
  refine callType_new F.called_enumerate (by decide) (F.typeCall_enumerate_1 _) (F.newCall_enumerate_1 _) (fun obj => F.args_object_init_2 obj _) F.entry_enumerate_new
    (Et.meets_new l items n dct sl) ⟨hl, ?_⟩
  have hz : (s.heap.push { cls := .type "tuple_iterator", data := .fields #[.ref l, .int 0 0] }).objs.size = s.heap.objs.size + 1 := Heap.size_push ..
  show _ ∧ _
  rw [hz]
  have he : IsEnum ((s.heap.push { cls := .type "tuple_iterator", data := .fields #[.ref l, .int 0 0] }).push
      { cls := .type "enumerate", data := .fields #[.none, .bool false, .ref s.heap.objs.size, rawInt 0, .none, .none] }) (s.heap.objs.size + 1) s.heap.objs.size 0 .none := by
    have := Heap.get?_push_size (s.heap.push { cls := .type "tuple_iterator", data := .fields #[.ref l, .int 0 0] })
      (o := { cls := .type "enumerate", data := .fields #[.none, .bool false, .ref s.heap.objs.size, rawInt 0, .none, .none] }) rfl
    rw [hz] at this; exact this
  refine ⟨⟨_, he, rfl⟩, h _ he ⟨_, Heap.get?_push_of_some _ (Heap.get?_push_size _ rfl), rfl, rfl⟩ (by rw [Heap.size_push, hz]) fun b o x => Heap.get?_push_of_some _ (Heap.get?_push_of_some _ x)⟩
theorem Et.fin {e it l : Addr} {i : Nat} {items : Array Value} {old : Value} {Q : Option Value → Shared → Prop} (hh : A.handled = none)
    (he : IsEnum s.heap e it i old) (hit : s.heap.IsTupleIter it l i) (hl : s.heap.IsTuple l items) (hx : items[i]? = none)
    (hQ : ∀ h', Heap.ExtBut it s.heap h' → Q none { s with heap := h' }) : wpAny (model prog w) A (pyNext (.ref e)) Q E s := by
  have hT : s.TypeIs (.ref e) "enumerate" := ⟨_, he, rfl⟩
  unfold pyNext
  refine wpAny_bind (wpAny_attempt (wpAny_callSpecial?_slot (name := Str.ofString "__next__") hT F.slot_enumerate_next
    (wpAny_call_entry F.slot_enumerate_next hT F.entry_enumerate_next ?_ (F.args_enumerate_next_1 _))))
  show wpAny _ _ (field (.ref e) 2 >>= _) _ _ _
  refine wpAny_bind (wpAny_field he rfl (x := .ref it) rfl ?_)
  refine wpAny_bind (wpAny_nextOf_tuple_end hh hit hl hx fun h' x he' hx' => ?_)
  obtain ⟨o, ho, hc⟩ := hx'
  refine wpAny_bind (wpAny_isInstance (T := "StopIteration") (b := true) ⟨o, ho, hc⟩ isSubtype_stop ?_)
  exact wpAny_pure (hQ _ he')
end
end PySem
namespace Et
open PySem PySem.Spec PyProof.Rows L2
def It (K : PySem.W.Frag) (a : Addr) : L2.It :=
  ⟨fun i H => ∃ (xs : List V) (x : V), SqT K H a xs ∧ xs[i]? = some x, fun i H v H' => ∃ T x, v = .ref T ∧ H T = none ∧ H' = upd H T (.tup [.int (i : Nat), x]) ∧ ∀ xs, SqT K H a xs → xs[i]? = some x, fun i H => ∃ xs : List V, SqT K H a xs ∧ xs.length ≤ i⟩
theorem turn {P : Program} {w : World} {K : PySem.W.Frag} {elts : List Expr} {kk : Nat} {tpos : Pos} (a e it : Addr) (hat : a ≠ it) (hae : a ≠ e) :
    Turn P w K (.Tuple elts kk tpos) (It K a) [e, it] e (fun i h => (∃ old, IsEnum h e it ((i : Nat) : Int) old) ∧ h.IsTupleIter it a i ∧ e ≠ it) where
  mem := by simp
  obj := fun i h st b hb => by
    obtain ⟨⟨old, he⟩, ⟨o, ho, hc, hd⟩, _⟩ := st
    have e' : b = e ∨ b = it := by simpa using hb
    rcases e' with z | z
    · rw [z]; exact ⟨_, he, fun v q => nomatch q⟩
    · rw [z]; exact ⟨o, ho, fun v q => by rw [hd] at q; cases q⟩
  keep := fun i h h' st k => let ⟨⟨old, he⟩, hi, hne⟩ := st; ⟨⟨old, k e (by simp) _ he⟩, hi.at fun o q => k it (by simp) o q, hne⟩
  item := by
    intro X hP hw hK hc i pins s σ H E I hf st hg
    subst hP hw hK
    obtain ⟨⟨old, he⟩, hit, hne⟩ := st
    obtain ⟨xs, x, hq, hx⟩ := hg
    obtain ⟨its, rv, p, hz⟩ := I.tuple hq
    obtain ⟨u, hu, ru⟩ := rv.get hx
    have hel : e < s.heap.objs.size := Heap.lt_size he
    have hil : it < s.heap.objs.size := by obtain ⟨_, q, _⟩ := hit; exact Heap.lt_size q
    have hlt : i < its.toArray.size := by
      have := (List.getElem?_eq_some_iff.mp hu).1
      simpa using this
    refine wpAny_pyNext_enum_itemD (Draws.tuple (prog := X.prog) (w := X.w) (A := X.A.in1) (I.ok.hd hc) it a hat its.toArray) he ⟨hit, p⟩ hlt hne (by simp [hne, Ne.symm hae]) fun x' h' tk hx' ho st' hT hsz hk => ?_
    have ex : x' = u := by
      have h1 : its[i]? = some x' := by simpa using hx'
      rw [hu] at h1
      exact (Option.some.inj h1).symm
    subst ex
    refine ⟨_, rfl, wpAny_letOwnedTupleGo_enum (s := { s with heap := h', toks := tk + 1 }) ho fun h'' he' sb => ?_⟩
    have hT2 : h''.get? s.heap.objs.size = some { cls := .type "tuple", data := .seq #[.int i tk, x'] } := (sb.2 _ (Nat.ne_of_gt hel)).trans hT
    have new : ObjOk X.prog X.w (upd H s.heap.objs.size (.tup [.int (i : Nat), x])) h'' s.heap.objs.size (.tup [.int (i : Nat), x]) :=
      ⟨by show 2 ≤ sizeLine; decide, [.int i tk, x'], .cons ⟨_, rfl⟩ (.cons ru .nil), ⟨_, hT2, rfl, _, rfl⟩⟩
    have I1 : Inv X pins σ (upd H s.heap.objs.size (.tup [.int (i : Nat), x])) { s with heap := h'', toks := tk + 1 } :=
      I.turnedNew (ch := [e, it]) (fun b ob hb q => (sb.2 b (fun z => hb (by simp [z]))).trans (hk b ob (fun z => hb (by simp [z])) (fun z => hb (by simp [z])) q)) hf (Nat.le_refl _) new
    refine ⟨.ref s.heap.objs.size, _, I1, rfl, ⟨_, x, rfl, I.hok.fresh (Nat.le_refl _), rfl, fun ys hy => by rw [I.tuple_inj hy hq]; exact hx⟩, ⟨⟨x', ?_⟩, st'.1.at fun o q => (sb.2 it (Ne.symm hne)).trans q, hne⟩, fun b hb => ?_⟩
    · have e1 : ((i + 1 : Nat) : Int) = (i : Int) + 1 := by omega
      rw [e1]; exact he'
    · have hb' : b < s.heap.objs.size := by
        have e' : b = e ∨ b = it := by simpa using hb
        rcases e' with z | z
        · rw [z]; exact hel
        · rw [z]; exact hil
      rw [upd_ne (Nat.ne_of_lt hb')]
      exact (hf b hb).1
  done := by
    intro X hP hw hK hc i pins s σ H E I hf st hg
    subst hP hw hK
    obtain ⟨⟨old, he⟩, hit, hne⟩ := st
    obtain ⟨xs, hq, hx⟩ := hg
    obtain ⟨its, rv, p, hz⟩ := I.tuple hq
    obtain ⟨f0, f1, f2, f3, f4, f5⟩ := hf it (by simp)
    have hl := rv.length
    exact PySem.Et.fin (I.ok.hd hc) he hit p (by simp; omega) fun h' eb => ⟨rfl, I.turned (t' := s.toks) (fun b o hb q => eb b o hb q) f0 f1 f3 f4 f5⟩
  self := fun A i s Q E st h => let ⟨⟨_, he⟩, _⟩ := st; wpAny_pyIter_enum he h
end Et
namespace Et
open PySem PySem.Spec PyProof.Rows L2
def iEnum (K : PySem.W.Frag) (ta : TA) : TI := fun σ H R => ta σ H fun vs H1 => ∃ a xs, vs = [.ref a] ∧ SqT K H1 a xs ∧ R (It K a) H1
theorem pi_enum {X : Cx} {e : Expr} {ta : TA} {p pos tpos : Pos} {elts : List Expr} {kk : Nat} (hg : Gl X "enumerate") (hm : X.mg "enumerate" = none) (ha : PA X [e] ta) (hs : starEach [e] X.env = [(false, eval e X.env)] := by rfl) :
    PI X (.Tuple elts kk tpos) (.Call (.Name "enumerate" p) [e] [] pos) (iEnum X.K ta) := by
  refine ⟨fun pins s σ H R I h => ?_⟩
  refine Call_ (ld_blt I hg hm boot_enumerate (PyProof.Rows.callWith_type1 (thn (ha.run pos pins s σ H _ I h) fun us s1 ⟨vs, H1, I1, r1, q1⟩ => ?_) hs rfl))
  obtain ⟨a, xs, ex, hq, q⟩ := q1
  subst ex
  cases r1 with
  | cons r rr =>
    cases rr
    cases r
    obtain ⟨its, rv, p', hz⟩ := I1.tuple hq
    obtain ⟨oa, hoa, _⟩ := id p'
    have hla := Heap.lt_size hoa
    refine PySem.Et.call (show s1.heap.IsTuple a its.toArray from p') fun h' he hit hsz hk => wpAny_pyIter_enum he ?_
    have I2 : Inv X pins σ H1 { s1 with heap := h' } := I1.kept (t' := s1.toks) hk
    refine ⟨s1.heap.objs.size + 1, [s1.heap.objs.size + 1, s1.heap.objs.size], _, _, H1, rfl, I2, turn a (s1.heap.objs.size + 1) s1.heap.objs.size (Nat.ne_of_lt hla) (Nat.ne_of_lt (Nat.lt_succ_of_lt hla)), ⟨⟨.none, he⟩, hit, Nat.succ_ne_self _⟩, fun b hb => ?_, q⟩
    have e' : b = s1.heap.objs.size + 1 ∨ b = s1.heap.objs.size := by simpa using hb
    have hle : s1.heap.objs.size ≤ b := by
      rcases e' with z | z
      · rw [z]; exact Nat.le_add_right _ _
      · rw [z]; exact Nat.le_refl _
    exact I1.fpOk hle (I1.hok.fresh hle)
end Et
namespace Dn
open PySem PySem.Spec PyProof.Rows L2
variable [Tb0]
section
variable {X : Cx} {e : Expr} {p pos tpos : Pos} {Γ Γ1 : List Slot} {t : Ty} {xs : List t.den} {g : TG} {tgs : List Nat}
end
end Dn
set_option Elab.async false
set_option linter.all false
set_option maxRecDepth 100000
set_option maxHeartbeats 1000000
namespace Dn
open PySem PySem.Spec PyProof.Rows L2 TL
variable [Tb0]
def ItzS (K : PySem.W.Frag) (x : Str) (b : Addr) : It :=
  ⟨fun i H => ∃ (ys : List V) (y : V), i < x.cps.size ∧ SqT K H b ys ∧ ys[i]? = some y,
    fun i H v H' => ∃ (T : Addr) (c : Nat) (y : V), v = .ref T ∧ H T = none ∧ H' = upd H T (.tup [.str ⟨#[c]⟩, y]) ∧ x.cps[i]? = some c ∧ ∀ ys, SqT K H b ys → ys[i]? = some y,
    fun i H => ∃ ys : List V, SqT K H b ys ∧ i ≤ x.cps.size ∧ i ≤ ys.length ∧ (i = x.cps.size ∨ i = ys.length)⟩
def iZipS (K : PySem.W.Frag) (ta : TA) : TI := fun σ H R => ta σ H fun vs H1 => ∃ x b ys, vs = [.str x, .ref b] ∧ SqT K H1 b ys ∧ R (ItzS K x b) H1
section
variable {X : Cx} {Γ Γ1 Γ2 : List Slot} {a b e tg : Expr} {pos p : Pos} {t u : Ty} {g : TG} {tgs : List Nat}
end
end Dn
set_option Elab.async false
set_option linter.all false
set_option maxRecDepth 100000
set_option maxHeartbeats 2000000
namespace Sd
open PySem PySem.Spec PyProof.Rows PySem.W
section
variable {prog : Program} {w : World} {A : Around} {E : Value → Shared → Prop} {s : Shared} {T : String} {r d : Addr} {n : Nat} {P : Nat → Value → Prop} {OK : Heap → Prop}
theorem collect_code {R : Result → Shared → Prop} (K : KdlSrc prog w T r d n P OK) (hh : A.handled = none) (hok : OK s.heap) (hn : n ≤ sizeLine)
    (hR : ∀ (h' : Heap) (tk : Nat) (acc' : Array Value) (c' : Nat), (∀ b o, s.heap.get? b = some o → h'.get? b = some o) → s.heap.objs.size ≤ h'.objs.size → ItemsOf P acc' n →
      h'.get? s.heap.objs.size = some { cls := .type "list", dict := none, data := .seq acc' c', slots := #[] } → R (.ok (.ret (.ref s.heap.objs.size))) { s with heap := h', toks := tk }) :
    codeAny (model prog w) A (.builtin "proto.collect" ⟨[.ref r], []⟩) R s := by
  have hlt := K.there _ hok
  refine codeAny_builtin PySem.F.entry_proto_collect ?_
  rw [Around.under_plainId PySem.F.plain_proto_collect _]
  show wpAny _ A.in1 (newList [] >>= fun l' => again (.builtin "list.__iadd__" ⟨[l', .ref r], []⟩)) _ _ s
  refine wpAny_bind (wpAny_newObj_type ?_)
  refine wpAny_pure ⟨plainId_quiet PySem.F.plain_list_iadd _, codeAny_builtin PySem.F.entry_list_iadd ?_⟩
  rw [Around.under_plainId PySem.F.plain_list_iadd _]
  have hS₁ : (s.heap.push { cls := .type "list", data := .seq ([] : List Value).toArray }).get? s.heap.objs.size = some { cls := .type "list", data := .seq ([] : List Value).toArray } := Heap.get?_push_size _ rfl
  show wpAny _ A.in1 (Builtin.List.listExtendWith (.ref s.heap.objs.size) (.ref r) (.ref s.heap.objs.size)) _ _ _
  exact kdl_extend (A := A) (s := { s with heap := s.heap.push { cls := .type "list", data := .seq ([] : List Value).toArray } }) (R := R) K hh (K.keep _ _ hok fun b _ o e => Heap.get?_push_of_some _ e) s.heap.objs.size (Nat.ne_of_gt hlt.1) (Nat.ne_of_gt hlt.2) (.ref s.heap.objs.size) 0 hS₁ (fun h' tk acc' c' hk hS' hacc =>
    hR h' tk acc' c' (fun b o e => hk b o (Nat.ne_of_lt (Heap.lt_size e)) (Heap.get?_push_of_some _ e)) (Nat.le_of_lt (Heap.lt_size hS')) hacc hS') hn
theorem collect_src {Q : List Value → Shared → Prop} (K : KdlSrc prog w T r d n P OK) (hh : A.handled = none) (hok : OK s.heap) (hn : n ≤ sizeLine)
    (hQ : ∀ (h' : Heap) (tk : Nat) (acc : Array Value), (∀ b o, s.heap.get? b = some o → h'.get? b = some o) → s.heap.objs.size ≤ h'.objs.size → ItemsOf P acc n → Q acc.toList { s with heap := h', toks := tk }) :
    wpAny (model prog w) A (collect (.ref r)) Q E s := by
  unfold collect
  refine wpAny_bind (wpAny_runValue (collect_code K hh hok hn fun h' tk acc' c' hk hsz hacc hS' => ?_))
  show wpAny _ A (load s.heap.objs.size >>= _) _ _ _
  refine wpAny_bind (wpAny_load hS' ?_)
  refine wpAny_pure ?_
  exact hQ h' tk acc' hk hsz hacc
theorem sorted_src {β : Type} {R : Value → β → Prop} {enc : β → PyData} {bs : List β} {Q : Value → Shared → Prop} (K : KdlSrc prog w T r d n P OK) (hh : A.handled = none) (hok : OK s.heap) (hn : n ≤ sizeLine) (hbn : bs.length = n)
    (he : ∀ acc : Array Value, ItemsOf P acc n → EachIs R acc.toList bs) (hr : ∀ v b, R v b → ∀ h' : Heap, (∀ b o, s.heap.get? b = some o → h'.get? b = some o) → Reads h' v (enc b) [])
    (hal : AllAlike (bs.map enc)) (hk : Sortable (bs.map enc)) (hu : ∀ b, b ∈ bs → A.units + 3 + (enc b).depth < cLine)
    (h : ∀ (h' : Heap) (tk : Nat) (p : Addr) (out : List Value) (c : Nat), (∀ b o, s.heap.get? b = some o → h'.get? b = some o) → s.heap.objs.size ≤ p → h'.get? p = some (seqObj "list" out.toArray c) → EachIs R out (bs.mergeSort (dataLe false enc)) → Q (.ref p) { s with heap := h', toks := tk }) :
    wpAny (model prog w) A (call (.builtin "sorted") [.ref r]) Q E s := by
  refine Calls.call_function_entry kind_sorted plain_sorted entry_sorted (args_sorted1 _) ?_
  unfold Builtin.«sorted»
  refine wpAny_bind (m := checkCount "sorted" 1 1 _) (wpAny_pure ?_)
  refine wpAny_bind (collect_src (A := A.in1) K hh hok hn fun h' tk acc keep hsz hacc => ?_)
  have hEach := he acc hacc
  have hlen : acc.toList.length ≤ sizeLine := by rw [hEach.length, hbn]; exact hn
  refine wpAny_bind (wpAny_newList ?_ hlen)
  have hoL : (h'.push (seqObj "list" acc.toList.toArray 0)).get? h'.objs.size = some (seqObj "list" acc.toList.toArray 0) := Heap.get?_push_size _ rfl
  have keep2 : ∀ b o, s.heap.get? b = some o → (h'.push (seqObj "list" acc.toList.toArray 0)).get? b = some o := fun b o e => Heap.get?_push_of_some _ (keep b o e)
  refine wpAny_bind (wpAny_holding (list_sort_data (A := A.in1) (s := { s with heap := h'.push (seqObj "list" acc.toList.toArray 0), toks := tk }) hoL hEach (hEach.mono fun v b q => ⟨[], hr v b q _ keep2, by simp⟩) hal hk (by rw [hbn]; exact hn) (fun b hb => by have := hu b hb; show A.units + 1 + 1 + _ < _; omega) fun out hl ho => ?_))
  refine wpAny_pure ⟨_, rfl, ?_⟩
  obtain ⟨c, hc⟩ := sortedHeap_at (vs := acc.toList) (out := out.toArray) hoL
  refine h _ _ _ out c (fun b o e => ?_) ?_ hc ho
  · have q := keep b o e
    have hlt := Heap.lt_size q
    rw [sortedHeap_old (Nat.ne_of_lt hlt) (by rw [size_push']; exact Nat.lt_succ_of_lt hlt)]
    exact Heap.get?_push_of_some _ q
  · exact hsz
end
end Sd
set_option Elab.async false
set_option linter.all false
set_option maxRecDepth 100000
set_option maxHeartbeats 2000000
namespace Dn
open PySem PySem.Spec PyProof.Rows L2 TL
variable [Tb0]
def Ty.k1 : Ty → Bool
  | .int => true | .str => true | _ => false
def kput {α β : Type} [DecidableEq α] (kvs : List (α × β)) (k : α) (y : β) : List (α × β) :=
  if (kvs.any fun p => decide (p.1 = k)) = true then kvs.map (fun p => if p.1 = k then (p.1, y) else p) else kvs ++ [(k, y)]
abbrev RepT (K : PySem.W.Frag) (k t : Ty) (G : Hp) (ws : List (List Key × V)) (kvs : List (k.den × t.den)) : Prop := Paired (fun (w : List Key × V) (y : k.den × t.den) => w.1 = keyL k y.1 ∧ Rep K t G w.2 y.2) ws kvs
theorem k1_two : ∀ {A B : Ty}, A.k1 = true → B.k1 = true → (Ty.p2 A B).dep ≤ 2 ∧ (Ty.p2 A B).canLt = true ∧ (Ty.p2 A B).canSort = true
  | .int, .int, _, _ => ⟨by decide, rfl, rfl⟩
  | .int, .str, _, _ => ⟨by decide, rfl, rfl⟩
  | .str, .int, _, _ => ⟨by decide, rfl, rfl⟩
  | .str, .str, _, _ => ⟨by decide, rfl, rfl⟩
section
variable {K : PySem.W.Frag} {G : Hp} {A B t : Ty}
end
section
variable {K : PySem.W.Frag} {F : Fx} {G H : Hp} {σ : L2.St} {Γ : List Slot} {i : Nat} {pin : Bool} {k t : Ty} {kvs kvs' : List (k.den × t.den)}
end
section
variable {X : Cx} {a b e : Expr} {pos p pos' npos : Pos} {Γ Γ1 Γ2 : List Slot} {A B t : Ty} {kvs : List ((Ty.p2 A B).den × t.den)} {n : Str} {ρ : Type} {R : RI ρ}
theorem key_reads {pins : List (Addr × Obj)} {σ : L2.St} {H : Hp} {s : Shared} (I : Inv X pins σ H s) (hA : A.k1 = true) (hB : B.k1 = true) {q : Addr} {y : (Ty.p2 A B).den} (h : H q = some (.tup ((keyL (.p2 A B) y).map kV))) {h' : Heap} (hk : ∀ b o, s.heap.get? b = some o → h'.get? b = some o) : Reads h' (.ref q) (toPy (.p2 A B) y) [] := by
  obtain ⟨its, rv, ⟨o, ho, hc, n, hd⟩, hz⟩ := I.tuple (tT h)
  have one : ∀ {C : Ty} {z : C.den} {u : Value}, C.k1 = true → RelV (kV (key1 C z)) u → Reads h' u (toPy C z) [] := fun {C z u} hC r => by
    cases C with
    | int => obtain ⟨t, rfl⟩ := r; exact .int _ _
    | str => obtain ⟨t, rfl⟩ := r; exact .str _ _
    | _ => cases hC
  cases rv with
  | cons r1 rv =>
    cases rv with
    | cons r2 rv =>
      cases rv
      exact .tuple (as := [] ++ ([] ++ [])) (hk _ _ ho) hc hd (.cons (one hA r1) (.cons (one hB r2) .nil))
def rSortDT (A B : Ty) : List V → Hp → VK → Prop := fun vs H Q => ∃ (a : Addr) (ws : List (List Key × V)) (ys : List (Ty.p2 A B).den), vs = [V.ref a] ∧ H a = some (.dT ws) ∧ ws.map (·.1) = ys.map (keyL (.p2 A B)) ∧
  ∀ (qs : List Addr) (p : Addr), Paired (fun (q : Addr) (y : (Ty.p2 A B).den) => H q = some (.tup ((keyL (.p2 A B) y).map kV))) qs (sortT (.p2 A B) ys) → H p = none → Q (.ref p) (upd H p (.lst (qs.map V.ref)))
open PySem.W in
theorem each_pair {β : Type} {R : Value → β → Prop} : ∀ {vs : List Value} {bs : List β}, vs.length = bs.length → (∀ (j : Nat) (v : Value) (b : β), vs[j]? = some v → bs[j]? = some b → R v b) → EachIs R vs bs
  | [], [], _, _ => .nil
  | [], _ :: _, h, _ => by simp at h
  | _ :: _, [], h, _ => by simp at h
  | v :: vs, b :: bs, h, f => .cons (f 0 v b rfl rfl) (each_pair (by simpa using h) fun j u c h1 h2 => f (j + 1) u c (by simpa using h1) (by simpa using h2))
open PySem.W in
theorem each_refs {H : Hp} : ∀ {us : List Value} {ys : List (Ty.p2 A B).den}, EachIs (fun u y => ∃ q, u = Value.ref q ∧ H q = some (.tup ((keyL (.p2 A B) y).map kV))) us ys → ∃ qs : List Addr, us = qs.map Value.ref ∧ Paired (fun (q : Addr) (y : (Ty.p2 A B).den) => H q = some (.tup ((keyL (.p2 A B) y).map kV))) qs ys
  | _, _, .nil => ⟨[], rfl, .nil⟩
  | _, _, .cons r t => by
    obtain ⟨q, rfl, h⟩ := r
    obtain ⟨qs, rfl, h2⟩ := each_refs t
    exact ⟨q :: qs, rfl, .cons h h2⟩
open PySem.W in
theorem cr_sortDT {k : Nat} (hr : RoomG k X.A) (hcalm : X.calm = true) (hA : A.k1 = true) (hB : B.k1 = true) : CallR X (.builtin "sorted") (rSortDT A B) := by
  intro pins s σ H vs us Q I r h
  obtain ⟨a, ws, ys, rfl, ha, hkeys, q⟩ := h
  rw [Vals.ref1 r]
  obtain ⟨z, hs, ks, pr, o, es, ep, ho, hx, hdt, he, hn⟩ := (show ObjOk X.prog X.w H s.heap a (.dT ws) from I.hok a _ ha)
  have l1 : es.size = ks.length := size_of_entries he
  have l2 : ws.length = ks.length := Paired.length pr
  have l3 : ws.length = ys.length := by have := congrArg List.length hkeys; simpa using this
  obtain ⟨hd60, hlt, hso⟩ := k1_two hA hB
  refine Sd.sorted_src (R := fun u y => ∃ q, u = Value.ref q ∧ H q = some (.tup ((keyL (.p2 A B) y).map kV))) (enc := toPy (.p2 A B)) (bs := ys) (kdl_raw hs hx hdt) (I.ok.hd hcalm) ho (by omega) (by omega) (fun acc it => ?_) (fun v y hv h' hk => ?_) (AllAlike.of (alike_of _ hlt)) (sortable hso ys)
    (fun b _ => by
      have h1 := hr.units
      have h2 := dep_le (.p2 A B) b
      omega) fun h' tk p out c keep hp hg ho' => ?_
  · have hl : acc.toList.length = ys.length := by rw [Array.length_toList, it.1]; omega
    refine each_pair hl fun j v y hv hy => ?_
    obtain ⟨en, hen, rfl⟩ := it.2 j v (by rw [← Array.getElem?_toList]; exact hv)
    have qe := entry_at he j
    rw [hen] at qe
    have hj : j < ks.length := by have := (List.getElem?_eq_some_iff.mp hy).1; omega
    rw [List.getElem?_eq_getElem hj] at qe
    have e2 : en = entryOfKey (tupleKind (mixKind X.prog X.w)) ks[j] := Option.some.inj qe
    obtain ⟨w, hw, w1, w2, _⟩ := pair_get pr (List.getElem?_eq_getElem hj)
    have e3 : (ws.map (·.1))[j]? = some w.1 := by rw [List.getElem?_map, hw]; rfl
    rw [hkeys, List.getElem?_map, hy] at e3
    have e3 : keyL (.p2 A B) y = w.1 := Option.some.inj e3
    refine ⟨ks[j].2.1, by rw [e2]; rfl, ?_⟩
    rw [e3]; exact w2
  · obtain ⟨q, rfl, hq⟩ := hv
    exact key_reads I hA hB hq hk
  · rw [le_data hlt] at ho'
    obtain ⟨qs, rfl, hqs⟩ := each_refs ho'
    have hlen : (qs.map V.ref).length ≤ sizeLine := by
      have e1 := pair_len hqs
      rw [List.length_mergeSort] at e1
      rw [List.length_map]; omega
    have hv : Vals (qs.map V.ref) (qs.map Value.ref) := vals_refs qs
    exact ⟨.ref p, upd H p (.lst (qs.map V.ref)), I.laid (t' := tk) keep hp ⟨hlen, qs.map Value.ref, c, hv, hg⟩, rfl, q qs p hqs (I.hok.fresh hp)⟩
end
end Dn
set_option Elab.async false
set_option linter.all false
set_option maxRecDepth 100000
set_option maxHeartbeats 4000000
namespace Sx
open PySem PySem.Spec PyProof.Rows L2
def keyS (e : Int × Value) : Str := match e.2 with | .str k _ => k | _ => Str.empty
def GoodX (w : World) (e : Int × Value) : Prop := ∃ (k : Str) (tk : Tok), e.2 = Value.str k tk ∧ e.1 = hashStr w k
def SetX (w : World) (h : Heap) (a : Addr) (S : Str → Bool) (n : Nat) : Prop :=
  ∃ o es ep t, h.get? a = some o ∧ o.ExactSet ∧ o.data = .set es ep t ∧ (∀ e ∈ es.toList, GoodX w e) ∧ (es.toList.map keyS).Nodup ∧ (∀ k, S k = true ↔ k ∈ es.toList.map keyS) ∧
    es.size < scanBound ∧ t.fits es.size = true ∧ es.size = n ∧ Ris t.place.toList ∧ (w.params.followText "set-order" = true ∨ t.led = true)
section
variable {P : Program} {w : World} {h h' : Heap} {a : Addr} {S : Str → Bool} {n : Nat}
theorem is_strX (k : Str) (u : Tok) : (PySem.strKind P w).is k (.str k u) = true := by
  show Value.isStrOf k (.str k u) = true
  simp [Value.isStrOf]
theorem SetX.at (R : SetX w h a S n) (k : ∀ o, h.get? a = some o → h'.get? a = some o) : SetX w h' a S n := by
  obtain ⟨o, es, ep, t, ho, r⟩ := R
  exact ⟨o, es, ep, t, k o ho, r⟩
theorem SetX.congr {S' : Str → Bool} (R : SetX w h a S n) (e : ∀ k, S' k = S k) : SetX w h a S' n := by
  rw [show S' = S from funext e]; exact R
theorem goodX_elems {l : List (Int × Value)} (g : ∀ e ∈ l, GoodX w e) : ElemsOf (PySem.strKind P w) l := fun e he => by
  obtain ⟨k, tk, h1, h2⟩ := g e he
  exact ⟨⟨k, by rw [h1]; exact is_strX k tk, h2⟩, by rw [h1]; rfl⟩
theorem goodX_is {e : Int × Value} (g : GoodX w e) (k : Str) : (PySem.strKind P w).is k e.2 = true ↔ keyS e = k := by
  obtain ⟨k0, tk, h1, _⟩ := g
  unfold keyS
  rw [h1]
  constructor
  · intro q
    exact (PySem.strKind P w).inj (.str k0 tk) k0 k (is_strX k0 tk) q
  · rintro rfl; exact is_strX _ _
theorem goodX_mem {l : List (Int × Value)} (g : ∀ e ∈ l, GoodX w e) (k : Str) : k ∈ l.map keyS ↔ ∃ e ∈ l, (PySem.strKind P w).is k e.2 = true := by
  rw [List.mem_map]
  exact ⟨fun ⟨e, he, q⟩ => ⟨e, he, (goodX_is (g e he) k).2 q⟩, fun ⟨e, he, q⟩ => ⟨e, he, (goodX_is (P := P) (g e he) k).1 q⟩⟩
end
section
variable {P : Program} {w : World} {A : Around} {E : Value → Shared → Prop} {s : Shared} {a : Addr} {S : Str → Bool} {n : Nat}
theorem addX_tail {g : Bool → Sem Unit} (hg : ∀ (b : Bool) (s₁ : Shared) (Q' : Unit → Shared → Prop), Q' () s₁ → wpAny (model P w) A (g b) Q' E s₁)
    {o : Obj} {es : Array (Int × Value)} {ep : Nat} {t : SetTable} (ho : s.heap.get? a = some o) (hex : o.ExactSet) (hd : o.data = .set es ep t)
    {es1 : Array (Int × Value)} {t2 : SetTable} {S' : Str → Bool} (g1 : ∀ e ∈ es1.toList, GoodX w e) (nd1 : (es1.toList.map keyS).Nodup) (m1 : ∀ k, S' k = true ↔ k ∈ es1.toList.map keyS)
    (hb1 : es1.size < scanBound) (hf2 : t2.fits es1.size = true) (hr : Ris t2.place.toList) (hl : w.params.followText "set-order" = true ∨ t2.led = true) {wasDummy : Bool} {R : Option Bool → Shared → Prop}
    (hR : ∀ h', Heap.SameBut a s.heap h' → SetX w h' a S' es1.size → R (some true) { s with heap := h' }) :
    wpAny (model P w) A (do
        storeSet a es1 t2
        if (!wasDummy && t2.tooFull) = true then do
            g (relayAll t2 es1 (SetTable.grown es1.size)).2.2
            storeSet a (relayAll t2 es1 (SetTable.grown es1.size)).1 (relayAll t2 es1 (SetTable.grown es1.size)).2.1
            pure (some true)
          else pure (some true)) R E s := by
  refine wpAny_bind (wpAny_storeSet_of ho hd ?_ (fits_of_scanBound hb1))
  have ho1 := store_at (es' := es1) (t' := t2) ho hd
  have sb1 := Heap.SameBut.update s.heap a (Obj.putSet es1 t2)
  split
  · have pm := relayAll_perm t2 es1 (SetTable.grown es1.size)
    have hf3 := relayAll_fits t2 es1 (SetTable.grown es1.size)
    have hr3 := relayAll_ris t2 es1 (SetTable.grown es1.size)
    have hl3 := relayAll_led t2 es1 (SetTable.grown es1.size)
    generalize relayAll t2 es1 (SetTable.grown es1.size) = Z at pm hf3 hr3 hl3 ⊢
    obtain ⟨es2, t3, gave⟩ := Z
    dsimp only at pm hf3 hr3 hl3 ⊢
    have hsz : es2.size = es1.size := by rw [← Array.length_toList, pm.length_eq, Array.length_toList]
    have hb2 : es2.size < scanBound := by rw [hsz]; exact hb1
    refine wpAny_bind (hg _ _ _ ?_)
    refine wpAny_bind (wpAny_storeSet_of ho1 rfl ?_ (fits_of_scanBound hb2))
    have ho2 := store_at (es' := es2) (t' := t3) ho1 rfl
    refine wpAny_pure (hR _ (sb1.trans (Heap.SameBut.update _ a _)) ?_)
    exact ⟨_, es2, _, t3, ho2, hex, rfl, fun e he => g1 e (pm.mem_iff.mp he), (pm.map keyS).nodup_iff.mpr nd1, fun k => (m1 k).trans (pm.map keyS).mem_iff.symm, hb2, hf3, hsz, hr3,
      hl.imp id fun z => by rw [hl3]; exact z⟩
  · exact wpAny_pure (hR _ sb1 ⟨_, es1, _, t2, ho1, hex, rfl, g1, nd1, m1, hb1, hf2, rfl, hr, hl⟩)
theorem addX_hashed {k : Str} {tk : Tok} {Q : Bool → Shared → Prop} (R : SetX w s.heap a S n) (room : n + 1 < scanBound)
    (hQ : ∀ h', Heap.SameBut a s.heap h' → SetX w h' a (fun j => S j || decide (j = k)) (if S k = true then n else n + 1) → Q (!S k) { s with heap := h' }) :
    wpAny (model P w) A (setAddHashed a (.str k tk) ((PySem.strKind P w).hash k)) Q E s := by
  obtain ⟨o, es, ep, t, ho, hex, hd, g, nd, hm, hb, hf, hn, hr, hl⟩ := R
  have hkey : (PySem.strKind P w).is k (.str k tk) = true := is_strX k tk
  have hsc : (Value.str k tk).scannable = true := rfl
  have hel : ElemsOf (PySem.strKind P w) es.toList := goodX_elems g
  unfold setAddHashed setAddHashedIn
  refine wpAny_holding (wpAny_bind (wpAny_setState_of ho hd hf ?_))
  dsimp only
  rw [byScan_of hsc hb hel]
  simp only [↓reduceIte]
  unfold setAddByScan
  refine wpAny_bind ?_
  refine wpAny_bind (wpAny_rule ?_)
  refine wpAny_bind (wpAny_setScan_of hkey ho hd hf hel ?_)
  cases hfi : List.findIdx? (fun e => (PySem.strKind P w).is k e.2) es.toList with
  | some j =>
    dsimp only
    obtain ⟨hj, pj, _⟩ := List.findIdx?_eq_some_iff_getElem.mp hfi
    have hSk : S k = true := (hm k).2 ((goodX_mem (P := P) (w := w) g k).2 ⟨es.toList[j], List.getElem_mem hj, pj⟩)
    refine wpAny_pure (wpAny_pure ?_)
    have q := hQ s.heap (Heap.SameBut.refl a s.heap) ⟨o, es, ep, t, ho, hex, hd, g, nd, fun i => by
      rw [Bool.or_eq_true, decide_eq_true_eq, ← hm i]
      exact ⟨fun z => z.elim id (fun e => e ▸ hSk), .inl⟩, hb, hf, by rw [if_pos hSk]; exact hn, hr, hl⟩
    rw [hSk] at q
    exact q
  | none =>
    dsimp only
    have hnk : k ∉ es.toList.map keyS := fun z => by
      obtain ⟨e, he, q⟩ := (goodX_mem (P := P) (w := w) g k).1 z
      have c := List.findIdx?_eq_none_iff.mp hfi e he
      rw [q] at c
      cases c
    have hSk : S k = false := by
      cases q : S k with
      | false => rfl
      | true => exact absurd ((hm k).1 q) hnk
    have hgw : ∀ (b : Bool) {s₁ : Shared} {Q' : Unit → Shared → Prop}, Q' () s₁ → wpAny (model P w) A (match b with | true => rule "set.scan.the-table-gave-way" | false => pure ()) Q' E s₁ :=
      fun b s₁ Q' q => by cases b <;> first | exact wpAny_pure q | exact wpAny_rule q
    have pm := layNew_perm t es ((PySem.strKind P w).hash k) (.str k tk)
    have hf1 := layNew_fits t es ((PySem.strKind P w).hash k) (.str k tk)
    have hr1 := layNew_ris t es ((PySem.strKind P w).hash k) (.str k tk) hr
    have hl1 := layNew_led t es ((PySem.strKind P w).hash k) (.str k tk)
    generalize layNew t es ((PySem.strKind P w).hash k) (.str k tk) = Z at pm hf1 hr1 hl1 ⊢
    obtain ⟨es1, t1, wasDummy, gave⟩ := Z
    dsimp only at pm hf1 hr1 hl1 ⊢
    rw [Array.toList_push] at pm
    have pc : es1.toList.Perm (((PySem.strKind P w).hash k, Value.str k tk) :: es.toList) := pm.trans (List.perm_append_singleton _ _)
    have pk : (es1.toList.map keyS).Perm (k :: es.toList.map keyS) := pc.map keyS
    have g1 : ∀ e ∈ es1.toList, GoodX w e := fun e he => by
      rcases List.mem_cons.mp (pc.mem_iff.mp he) with z | z
      · rw [z]; exact ⟨k, tk, rfl, rfl⟩
      · exact g e z
    have nd1 : (es1.toList.map keyS).Nodup := pk.nodup_iff.mpr (List.nodup_cons.mpr ⟨hnk, nd⟩)
    have m1 : ∀ i, (S i || decide (i = k)) = true ↔ i ∈ es1.toList.map keyS := fun i => by
      rw [Bool.or_eq_true, decide_eq_true_eq, hm i, pk.mem_iff, List.mem_cons]
      exact Or.comm
    have hsz : es1.size = n + 1 := by rw [← Array.length_toList, pc.length_eq, List.length_cons, Array.length_toList, hn]
    have hb1 : es1.size < scanBound := by rw [hsz]; exact room
    have hled : w.params.followText "set-order" = true ∨ t1.led = true := hl.imp id fun z => by rw [hl1]; exact z
    have fin : ∀ h', Heap.SameBut a s.heap h' → SetX w h' a (fun j => S j || decide (j = k)) es1.size → Q true { s with heap := h' } := fun h' sb r => by
      have q := hQ h' sb
      rw [hSk] at q
      rw [hsz] at r
      exact q r
    refine wpAny_bind (hgw _ ?_)
    split
    · refine wpAny_bind ?_
      rw [hashByValue_scannable 8 hsc]
      refine wpAny_pure ?_
      refine addX_tail ?_ ho hex hd g1 nd1 m1 hb1 ?_ ?_ ?_ ?_
      · intro b s₁ Q' q; cases b <;> first | exact wpAny_pure q | exact wpAny_rule q
      · first | (split <;> first | exact hf1 | exact SetTable.fits_plain_off hf1) | exact hf1
      · first | (split <;> exact hr1) | exact hr1
      · first | (split <;> exact hled) | exact hled
      · intro h' sb r; dsimp only; exact wpAny_pure (fin h' sb r)
    · refine wpAny_bind (wpAny_pure ?_)
      simp only [↓reduceIte]
      refine addX_tail ?_ ho hex hd g1 nd1 m1 hb1 hf1 hr1 hled ?_
      · intro b s₁ Q' q; cases b <;> first | exact wpAny_pure q | exact wpAny_rule q
      · intro h' sb r; dsimp only; exact wpAny_pure (fin h' sb r)
theorem update_strs {I : Addr} {fp wr : List Addr} {G : Array GenState → Array GenState → Prop} {n : Nat} {Pv : Nat → Value → Prop} {St : Nat → Shared → Prop} {R : Result → Shared → Prop}
    (W : WalksS P w A.in1 I fp wr G n Pv St) (S : Addr) (hSf : S ∉ fp) (ns : List Str) (hn : n = ns.length) (hb : ns.length + 1 < scanBound) (hval : ∀ i v, Pv i v → ∃ k t, ns[i]? = some k ∧ v = .str k t) :
    ∀ (k i : Nat) (s : Shared), n - i = k → i ≤ n → St i s → (∃ c, c ≤ i ∧ SetX w s.heap S (fun j => decide (j ∈ ns.take i)) c) →
      (∀ s' c, Moved (S :: wr) G s s' → c ≤ n → SetX w s'.heap S (fun j => decide (j ∈ ns)) c → R (.ok (.ret .none)) s') →
      codeAny (model P w) A (.builtin "set.update.loop" ⟨[.ref S, .ref I], []⟩) R s := by
  have hSw : S ∉ wr := fun h => hSf (W.sub _ h)
  have hsub : ∀ b ∈ wr, b ∈ S :: wr := fun b hb => List.mem_cons_of_mem _ hb
  intro k
  induction k with
  | zero =>
    intro i s hk' hi hst ⟨c, hc, hS⟩ hR
    have hin : i = n := by omega
    subst hin
    refine codeAny_builtin F.entry_set_update_loop ?_
    rw [Around.under_plainId F.plain_set_update_loop _]
    show wpAny _ A.in1 (pyNext (.ref I) >>= _) _ _ s
    refine wpAny_bind (W.done s _ _ hst fun s' hm => ?_)
    show wpAny _ A.in1 (ret Value.none) _ _ s'
    have e : ns.take i = ns := List.take_of_length_le (by omega)
    rw [e] at hS
    exact wpAny_pure (hR s' c (hm.mono hsub) hc (hS.at fun o e => hm.heap S o hSw e))
  | succ k ih =>
    intro i s hk' hi hst ⟨c, hc, hS⟩ hR
    have hlt : i < n := by omega
    refine codeAny_builtin F.entry_set_update_loop ?_
    rw [Around.under_plainId F.plain_set_update_loop _]
    show wpAny _ A.in1 (pyNext (.ref I) >>= _) _ _ s
    refine wpAny_bind (W.item i s _ _ hlt hst fun v s' hP hst' hm => ?_)
    obtain ⟨z, t, hz, rfl⟩ := hval i v hP
    have hS' : SetX w s'.heap S (fun j => decide (j ∈ ns.take i)) c := hS.at fun o e => hm.heap S o hSw e
    show wpAny _ A.in1 (holding [Value.str z t] (setAdd S (.str z t)) >>= _) _ _ s'
    refine wpAny_bind (wpAny_holding ?_)
    unfold setAdd
    refine wpAny_holding ?_
    refine wpAny_bind ((PySem.strKind P w).pyHash (k := z) (is_strX _ _) ?_)
    refine addX_hashed (s := { s' with toks := s'.toks + 1 }) hS' (by omega) fun h' hsb hS2 => ?_
    have hS3 : SetX w h' S (fun j => decide (j ∈ ns.take (i + 1))) (if decide (z ∈ ns.take i) = true then c else c + 1) := hS2.congr fun j => by
      rw [List.take_add_one, hz]
      simp [List.mem_append]
    have hc3 : (if decide (z ∈ ns.take i) = true then c else c + 1) ≤ i + 1 := by
      split <;> omega
    refine wpAny_pure ⟨plainId_quiet F.plain_set_update_loop _, ih (i + 1) _ (by omega) hlt (W.frame _ s' _ _ hst' (Nat.le_succ _) fun b hb o e => ?_) ⟨_, hc3, hS3⟩ fun s'' c2 hm'' hc'' hS'' => ?_⟩
    · rw [hsb.2 b (fun h : b = S => hSf (by rw [← h]; exact hb))]; exact e
    · refine hR s'' c2 (Moved.trans W.gtrans ((hm.mono hsub).then_heap (Nat.le_succ _) fun b o hb e => ?_) hm'') hc'' hS''
      rw [hsb.2 b (fun h : b = S => hb (by rw [h]; exact List.mem_cons_self))]; exact e
theorem newX_at {ns : List Str} {h : Heap} (ho : h.get? a = some { cls := .type "set", dict := none, data := .set #[] 0 (.fresh 0 0 (!w.params.followText "set-order")) }) : SetX w h a (fun j => decide (j ∈ ns.take 0)) 0 :=
  ⟨_, #[], 0, _, ho, ⟨rfl, rfl, rfl⟩, rfl, (fun e he => by simp at he), (by simp), (fun k => by simp), (by decide), (by rfl), rfl, List.Pairwise.nil, by
    show _ ∨ (!w.params.followText "set-order") = true
    cases w.params.followText "set-order" <;> simp⟩
set_option maxRecDepth 100000 in
set_option maxHeartbeats 3200000 in
theorem call_set_lstX {l : Addr} {items : Array Value} (ns : List Str) {Q : Value → Shared → Prop} (hh : A.handled = none) (hl : s.heap.IsList l items) (hit : StrsAre items.toList ns) (hb : ns.length + 1 < scanBound)
    (h : ∀ (h' : Heap) (tk c : Nat), SetX w h' s.heap.objs.size (fun j => decide (j ∈ ns)) c → c ≤ ns.length → (∀ b o, s.heap.get? b = some o → h'.get? b = some o) → Q (.ref s.heap.objs.size) { s with heap := h', toks := tk }) :
    wpAny (model P w) A (call (.type "set") [.ref l]) Q E s := by
  have hisz : items.size = ns.length := by
    have q := StrsAre.length hit
    rw [Array.length_toList] at q
    exact q
  obtain ⟨c, tl, hmro⟩ := F.called_set.mro
  have hmade := F.called_set.made
  have hsub := F.called_set.sub
  refine wpAny_call (codeAny_of_tree ?_)
  show wpAny _ _ (callAny (.type "set") _) _ _ _
  refine wpAny_pure ⟨Code.quiet_builtin _ (by decide +kernel), codeAny_builtin F.entry_type_call ?_⟩
  rw [Around.under_plain (weight_type_call_type "set" [.ref l] []) rfl]
  have h1 := F.called_set.notType
  have h2 := F.called_set.canCreate
  have hct := F.typeCall_set_1 (.ref l)
  repeat (any_goals (first | assumption | wp_step))

  refine codeAny_mono (code_set_led1 (.ref l) (E := E) (Q₁ := fun obj s₁ => obj = .ref s.heap.objs.size ∧ s₁ = { s with heap := s.heap.push { cls := .type "set", dict := none, data := .set #[] 0 (.fresh 0 0 (!w.params.followText "set-order")) } }) ⟨rfl, rfl⟩) fun r s₁ hr => ?_
  cases r with
  | error e => exact hr
  | ok fl =>
    cases fl with
    | ret obj =>
      obtain ⟨rfl, rfl⟩ := hr
      have hS : (s.heap.push { cls := .type "set", dict := none, data := .set #[] 0 (.fresh 0 0 (!w.params.followText "set-order")) }).get? s.heap.objs.size = some { cls := .type "set", dict := none, data := .set #[] 0 (.fresh 0 0 (!w.params.followText "set-order")) } := Heap.get?_push_size _ rfl
      have hT : Shared.TypeIs { s with heap := s.heap.push { cls := .type "set", dict := none, data := .set #[] 0 (.fresh 0 0 (!w.params.followText "set-order")) } } (.ref s.heap.objs.size) "set" := ⟨_, hS, rfl⟩
      have hli := F.called_set.init.lookup
      have hbi := F.called_set.init.bind (.ref s.heap.objs.size)
      repeat (any_goals (first | assumption | wp_step))

      refine codeAny_mono (codeAny_call_builtin (R := wants (fun r s₂ => r = .none ∧ ∃ h' tk c, s₂ = { s with heap := h', toks := tk } ∧ SetX w h' s.heap.objs.size (fun j => decide (j ∈ ns)) c ∧ c ≤ ns.length ∧
          (∀ b o, s.heap.get? b = some o → h'.get? b = some o)) E) F.called_set.init.plain F.entry_set_init (check_set_init_1 hT ?_)) fun r₂ s₂ hr₂ => ?_
      · obtain ⟨ol, hol, hcl, nl, hdl⟩ := hl
        obtain ⟨ocls, odict, odata, oslots⟩ := ol
        simp only at hcl hdl
        subst hcl; subst hdl
        have hol' : (s.heap.push { cls := .type "set", dict := none, data := .set #[] 0 (.fresh 0 0 (!w.params.followText "set-order")) }).get? l = some { cls := .type "list", dict := odict, data := .seq items nl, slots := oslots } := Heap.get?_push_of_some _ hol
        have hsls := F.sub_list_set
        have hslf := F.sub_list_frozenset
        have hne : (Value.type "list" == Value.type "dict") = false := by decide
        have hl1 : (s.heap.push { cls := .type "set", dict := none, data := .set #[] 0 (.fresh 0 0 (!w.params.followText "set-order")) }).IsList l items := ⟨_, hol', rfl, nl, rfl⟩
        unfold Builtin.«set.__init__» noKeywords Builtin.Frozenset.updateFrom
        generalize hPI : pyIter = PI
        wp_walk
        subst hPI

        refine wpAny_pyIter_list hl1 ?_
        refine wpAny_bind (wpAny_runValue ?_)
        have hlS : l < s.heap.objs.size := Heap.lt_size hol
        have hh3 : A.in1.in1.in1.handled = none := by simp [hh]
        have hz1 : (s.heap.push { cls := .type "set", dict := none, data := .set #[] 0 (.fresh 0 0 (!w.params.followText "set-order")) }).objs.size = s.heap.objs.size + 1 := Heap.size_push ..
        have hneI : l ≠ (s.heap.push { cls := .type "set", dict := none, data := .set #[] 0 (.fresh 0 0 (!w.params.followText "set-order")) }).objs.size := by
          rw [Heap.size_push]; exact Nat.ne_of_lt (Nat.lt_succ_of_lt hlS)
        have hSf : s.heap.objs.size ∉ [(s.heap.push { cls := .type "set", dict := none, data := .set #[] 0 (.fresh 0 0 (!w.params.followText "set-order")) }).objs.size, l] := by
          rw [Heap.size_push]; simp only [List.mem_cons, List.mem_singleton, List.not_mem_nil, or_false, not_or]
          exact ⟨Nat.ne_of_lt (Nat.lt_succ_self _), Nat.ne_of_gt hlS⟩
        have hval : ∀ (i : Nat) (v : Value), items[i]? = some v → ∃ k t, ns[i]? = some k ∧ v = .str k t := fun i v hv => by
          have hi : i < ns.length := by rw [← hisz]; exact (Array.getElem?_eq_some_iff.mp hv).1
          obtain ⟨t, e⟩ := SS.strs_at hit i v (by rw [Array.getElem?_toList]; exact hv)
          refine ⟨ns[i], t, List.getElem?_eq_getElem hi, ?_⟩
          rw [e, List.getD_eq_getElem?_getD, List.getElem?_eq_getElem hi] <;> rfl
        refine update_strs ((Walks.list hh3 _ l hneI items).toS) s.heap.objs.size
          hSf ns hisz hb hval (items.size - 0) 0 _ (by omega) (Nat.zero_le _)
          ⟨⟨_, Heap.get?_push_size _ rfl, rfl, rfl⟩, (hl1.push _)⟩ ?hS0 ?hR
        case hS0 =>
          have hget : ((s.heap.push { cls := .type "set", dict := none, data := .set #[] 0 (.fresh 0 0 (!w.params.followText "set-order")) }).push { cls := .type "list_iterator", data := .fields #[.ref l, .int 0 0] }).get? s.heap.objs.size
              = some { cls := .type "set", dict := none, data := .set #[] 0 (.fresh 0 0 (!w.params.followText "set-order")) } := Heap.get?_push_of_some _ hS
          exact ⟨0, Nat.le_refl 0, newX_at hget⟩
        case hR =>
          intro s' c' hm hc' hS'
          obtain ⟨h', g2, d', tk', os'⟩ := s'
          have eg : g2 = s.gens := hm.gens
          have ed : d' = s.drawn := hm.drawn
          have eo : os' = s.os := hm.os
          subst eg; subst ed; subst eo
          show wpAny _ _ _ _ _ _
          refine wpAny_pure ?_
          show wpAny _ _ (ret Value.none) _ _ _
          rw [hisz] at hc'
          refine wpAny_pure ⟨rfl, h', tk', c', rfl, hS', hc', fun b o e => ?_⟩
          have hb0 : b < s.heap.objs.size := Heap.lt_size e
          have hb1 : b ≠ s.heap.objs.size := Nat.ne_of_lt hb0
          have hb2 : b ≠ (s.heap.push { cls := .type "set", dict := none, data := .set #[] 0 (.fresh 0 0 (!w.params.followText "set-order")) }).objs.size := by
            rw [Heap.size_push]; exact Nat.ne_of_lt (Nat.lt_succ_of_lt hb0)
          exact hm.heap b o (by simp only [List.mem_cons, List.mem_singleton, List.not_mem_nil, or_false, not_or]; exact ⟨hb1, hb2⟩) (Heap.get?_push_of_some _ (Heap.get?_push_of_some _ e))

      · cases r₂ with
        | error e => exact hr₂
        | ok fl₂ =>
          cases fl₂ with
          | ret r =>
            obtain ⟨rfl, h', tk, c', rfl, hS', hc', hk'⟩ := hr₂
            repeat (any_goals (first | assumption | wp_step))
            exact h _ _ _ hS' hc' hk'
          | _ => exact hr₂.elim
    | _ => exact hr.elim
end
end Sx
set_option Elab.async false
set_option linter.all false
set_option maxRecDepth 100000
set_option maxHeartbeats 4000000
namespace Tz
open PySem PySem.Spec PyProof.Rows L2
def Flat1 (v : Value) : Prop := (∃ i t, v = Value.int i t) ∨ ∃ x t, v = Value.str x t
theorem nat_nodup_len : ∀ (l D : List Nat), l.Nodup → (∀ x ∈ l, x ∈ D) → l.length ≤ D.length
  | [], _, _, _ => Nat.zero_le _
  | x :: l, D, hn, hs => by
    obtain ⟨h1, h2⟩ := List.nodup_cons.mp hn
    have hx : x ∈ D := hs x List.mem_cons_self
    have ih := nat_nodup_len l (D.erase x) h2 fun y hy => by
      have hne : y ≠ x := fun e => h1 (e ▸ hy)
      exact (List.mem_erase_of_ne hne).2 (hs y (List.mem_cons_of_mem _ hy))
    have e := List.length_erase_of_mem hx
    have hp : 0 < D.length := List.length_pos_of_mem hx
    rw [List.length_cons]
    omega
theorem st_missing (l : List Nat) (n : Nat) (h : l.length < n) : ∃ j, j < n ∧ j ∉ l := by
  rcases Classical.em (∃ j, j < n ∧ j ∉ l) with c | c
  · exact c
  · exfalso
    have hs : ∀ x ∈ List.range n, x ∈ l := fun x hx => by
      rcases Classical.em (x ∈ l) with k | k
      · exact k
      · exact absurd ⟨x, List.mem_range.mp hx, k⟩ c
    have q := nat_nodup_len (List.range n) l List.nodup_range hs
    rw [List.length_range] at q
    omega
theorem st_least {p : Nat → Prop} : ∀ n, p n → ∃ k, k ≤ n ∧ p k ∧ ∀ k', k' < k → ¬ p k' := by
  intro n
  induction n using Nat.strongRecOn with
  | ind n ih =>
    intro h
    rcases Classical.em (∃ k', k' < n ∧ p k') with ⟨k', h1, h2⟩ | c
    · obtain ⟨k, a, b, d⟩ := ih k' h1 h2
      exact ⟨k, Nat.le_trans a (Nat.le_of_lt h1), b, d⟩
    · exact ⟨n, Nat.le_refl _, h, fun k' hk hp => c ⟨k', hk, hp⟩⟩
def lcgN (m : Nat) : Nat → Nat
  | 0 => 0
  | k + 1 => (lcgN m k * 5 + 1) % (m + 1)
def lcgI (m i : Nat) : Nat → Nat
  | 0 => i
  | k + 1 => (lcgI m i k * 5 + 1) % (m + 1)
def MaskOk (m : Nat) : Prop := m = 7 ∨ m = 31 ∨ m = 127 ∨ m = 511 ∨ m = 2047 ∨ m = 8191
def cyc : Nat → Nat
  | 0 => 0
  | k + 1 => cyc k * 5 + 1
theorem lcg_cyc (m : Nat) : ∀ k, lcgN m k = cyc k % (m + 1)
  | 0 => (Nat.zero_mod _).symm
  | k + 1 => by
    show (lcgN m k * 5 + 1) % (m + 1) = (cyc k * 5 + 1) % (m + 1)
    rw [lcg_cyc m k, Nat.add_mod, Nat.mul_mod, Nat.mod_mod, ← Nat.mul_mod, ← Nat.add_mod]
theorem pow_cyc : ∀ k, 5 ^ k = 4 * cyc k + 1
  | 0 => rfl
  | k + 1 => by
    rw [Nat.pow_succ, pow_cyc k]
    show _ = 4 * (cyc k * 5 + 1) + 1
    omega
theorem cyc_add (i : Nat) : ∀ d, cyc (i + d) = 5 ^ d * cyc i + cyc d
  | 0 => by show cyc i = 1 * cyc i + 0; omega
  | d + 1 => by
    show cyc (i + d) * 5 + 1 = 5 ^ (d + 1) * cyc i + (cyc d * 5 + 1)
    rw [cyc_add i d, Nat.pow_succ, Nat.add_mul]
    have : 5 ^ d * cyc i * 5 = 5 ^ d * 5 * cyc i := by rw [Nat.mul_assoc, Nat.mul_comm (cyc i) 5, ← Nat.mul_assoc]
    omega
theorem cyc_par : ∀ k, cyc k % 2 = k % 2
  | 0 => rfl
  | k + 1 => by
    have := cyc_par k
    show (cyc k * 5 + 1) % 2 = _
    omega
theorem cyc_two (k : Nat) : cyc (2 * k) = 2 * (cyc k * (2 * cyc k + 1)) := by
  rw [Nat.two_mul, cyc_add, pow_cyc, Nat.add_mul, Nat.one_mul, Nat.mul_add, Nat.mul_one, Nat.mul_add]
  have : 4 * cyc k * cyc k = 2 * (cyc k * (2 * cyc k)) := by
    rw [Nat.mul_left_comm (cyc k) 2 (cyc k), ← Nat.mul_assoc 2 2, Nat.mul_assoc]
  omega
theorem cyc_dvd : ∀ (k d : Nat), 2 ^ k ∣ cyc d ↔ 2 ^ k ∣ d
  | 0, d => by simp
  | k + 1, d => by
    have hp := cyc_par d
    by_cases h : d % 2 = 0
    · obtain ⟨n, rfl⟩ : ∃ n, d = 2 * n := ⟨d / 2, by omega⟩
      rw [cyc_two, Nat.pow_succ, Nat.mul_comm (2 ^ k) 2, Nat.mul_dvd_mul_iff_left (by decide), Nat.mul_dvd_mul_iff_left (by decide)]
      have co : Nat.Coprime (2 ^ k) (2 * cyc n + 1) := by
        refine Nat.Coprime.pow_left k ?_
        show Nat.gcd 2 (2 * cyc n + 1) = 1
        rw [Nat.gcd_rec, show (2 * cyc n + 1) % 2 = 1 by omega, Nat.gcd_one_left]
      rw [← cyc_dvd k n]
      exact ⟨fun h => co.dvd_of_dvd_mul_right h, fun h => Nat.dvd_trans h (Nat.dvd_mul_right _ _)⟩
    · have two : ∀ x, 2 ^ (k + 1) ∣ x → x % 2 = 0 := fun x hx => by
        have : 2 ∣ x := Nat.dvd_trans ⟨2 ^ k, by rw [Nat.pow_succ, Nat.mul_comm]⟩ hx
        omega
      exact ⟨fun h1 => by have := two _ h1; omega, fun h1 => by have := two _ h1; omega⟩
theorem cyc_inj {k i j : Nat} (hj : j < 2 ^ k) (hij : i < j) : cyc i % 2 ^ k ≠ cyc j % 2 ^ k := fun e => by
  obtain ⟨d, rfl⟩ : ∃ d, j = d + i := ⟨j - i, by omega⟩
  have h1 : cyc (d + i) = 5 ^ i * cyc d + cyc i := cyc_add d i
  have h2 : 2 ^ k ∣ cyc (d + i) - cyc i := ⟨cyc (d + i) / 2 ^ k - cyc i / 2 ^ k, by
    have a := Nat.div_add_mod (cyc (d + i)) (2 ^ k)
    have b := Nat.div_add_mod (cyc i) (2 ^ k)
    rw [Nat.mul_sub]; omega⟩
  rw [h1, Nat.add_sub_cancel] at h2
  have co : Nat.Coprime (2 ^ k) (5 ^ i) := Nat.Coprime.pow _ _ (by decide)
  have h3 := (cyc_dvd k d).mp (co.dvd_of_dvd_mul_left h2)
  have := Nat.le_of_dvd (by omega) h3
  omega
theorem mask_pow {m : Nat} (h : MaskOk m) : ∃ k, m + 1 = 2 ^ k := by
  rcases h with e | e | e | e | e | e
  · exact ⟨3, by rw [e]⟩
  · exact ⟨5, by rw [e]⟩
  · exact ⟨7, by rw [e]⟩
  · exact ⟨9, by rw [e]⟩
  · exact ⟨11, by rw [e]⟩
  · exact ⟨13, by rw [e]⟩
theorem lcg_all {m : Nat} (hm : MaskOk m) {j : Nat} (hj : j ≤ m) : ∃ b, b ≤ m ∧ lcgN m b = j := by
  obtain ⟨k, hk⟩ := mask_pow hm
  rcases Classical.em (∃ b, b ≤ m ∧ lcgN m b = j) with h | h
  · exact h
  · exfalso
    have nd : ((List.range (m + 1)).map (lcgN m)).Nodup := by
      rw [List.nodup_iff_pairwise_ne, List.pairwise_map]
      refine List.Pairwise.imp_of_mem ?_ List.pairwise_lt_range
      intro a b _ hb hab e
      rw [lcg_cyc, lcg_cyc, hk] at e
      exact cyc_inj (by rw [← hk]; exact List.mem_range.mp hb) hab e
    have := nat_nodup_len _ ((List.range (m + 1)).erase j) nd fun x hx => by
      obtain ⟨b, hb, rfl⟩ := List.mem_map.mp hx
      have hb := List.mem_range.mp hb
      refine (List.mem_erase_of_ne fun e => h ⟨b, by omega, e⟩).mpr (List.mem_range.mpr ?_)
      rw [lcg_cyc]
      exact Nat.mod_lt _ (by omega)
    rw [List.length_map, List.length_range, List.length_erase_of_mem (List.mem_range.mpr (by omega)), List.length_range] at this
    omega
theorem lcg_round {m : Nat} (hm : MaskOk m) : lcgN m (m + 1) = 0 := by
  obtain ⟨k, hk⟩ := mask_pow hm
  rw [lcg_cyc, hk]
  exact Nat.mod_eq_zero_of_dvd ((cyc_dvd k (2 ^ k)).mpr (Nat.dvd_refl _))
theorem lcgN_add (m a : Nat) : ∀ k, lcgI m (lcgN m a) k = lcgN m (a + k)
  | 0 => rfl
  | k + 1 => by
    show (lcgI m (lcgN m a) k * 5 + 1) % (m + 1) = (lcgN m (a + k) * 5 + 1) % (m + 1)
    rw [lcgN_add m a k]
theorem lcgN_mod {m : Nat} (hm : MaskOk m) : ∀ k, lcgN m (m + 1 + k) = lcgN m k
  | 0 => lcg_round hm
  | k + 1 => by
    show (lcgN m (m + 1 + k) * 5 + 1) % (m + 1) = (lcgN m k * 5 + 1) % (m + 1)
    rw [lcgN_mod hm k]
theorem lcgI_all {m : Nat} (hm : MaskOk m) {i j : Nat} (hi : i ≤ m) (hj : j ≤ m) : ∃ k, k ≤ m ∧ lcgI m i k = j := by
  obtain ⟨a, ha, ea⟩ := lcg_all hm hi
  obtain ⟨b, hb, eb⟩ := lcg_all hm hj
  rw [← ea]
  rcases Nat.lt_or_ge b a with c | c
  · refine ⟨b + (m + 1) - a, by omega, ?_⟩
    rw [lcgN_add]
    have e : a + (b + (m + 1) - a) = m + 1 + b := by omega
    rw [e, lcgN_mod hm, eb]
  · refine ⟨b - a, by omega, ?_⟩
    rw [lcgN_add]
    have e : a + (b - a) = b := by omega
    rw [e, eb]
def adv (m : Nat) (p : SetTable.Probe) : SetTable.Probe :=
  if p.more > 0 then { p with j := p.j + 1, more := p.more - 1 } else
  { p with j := (SetTable.leap m p.i p.perturb).1, more := SetTable.runEnd m (SetTable.leap m p.i p.perturb).1 - (SetTable.leap m p.i p.perturb).1, i := (SetTable.leap m p.i p.perturb).1, perturb := (SetTable.leap m p.i p.perturb).2 }
def nth (m : Nat) (p : SetTable.Probe) : Nat → SetTable.Probe
  | 0 => p
  | k + 1 => nth m (adv m p) k
theorem nth_add (m : Nat) : ∀ (a : Nat) (p : SetTable.Probe) (k : Nat), nth m p (a + k) = nth m (nth m p a) k
  | 0, p, k => by rw [Nat.zero_add]; rfl
  | a + 1, p, k => by
    have e : a + 1 + k = (a + k) + 1 := by omega
    rw [e]
    exact nth_add m a (adv m p) k
theorem nth_succ (m : Nat) (p : SetTable.Probe) (k : Nat) : nth m p (k + 1) = adv m (nth m p k) := nth_add m k p 1
def runAt (m i perturb : Nat) : SetTable.Probe := { j := i, more := SetTable.runEnd m i - i, i, perturb, dummy := none }
theorem runEnd_bd {m i : Nat} (hi : i ≤ m) : SetTable.runEnd m i ≤ m ∧ i ≤ SetTable.runEnd m i ∧ SetTable.runEnd m i ≤ i + 9 := by
  unfold SetTable.runEnd
  split <;> omega
theorem nth_run (m : Nat) (i perturb : Nat) : ∀ k, k ≤ SetTable.runEnd m i - i → nth m (runAt m i perturb) k = { j := i + k, more := SetTable.runEnd m i - i - k, i, perturb, dummy := none }
  | 0, _ => rfl
  | k + 1, h => by
    rw [nth_succ, nth_run m i perturb k (by omega)]
    unfold adv
    have hp : SetTable.runEnd m i - i - k > 0 := by omega
    rw [if_pos hp]
    rfl
theorem nth_leap (m : Nat) (i perturb : Nat) : nth m (runAt m i perturb) (SetTable.runEnd m i - i + 1) = runAt m (SetTable.leap m i perturb).1 (SetTable.leap m i perturb).2 := by
  rw [nth_succ, nth_run m i perturb _ (Nat.le_refl _)]
  unfold adv
  have hp : ¬ (SetTable.runEnd m i - i - (SetTable.runEnd m i - i) > 0) := by omega
  rw [if_neg hp]
  rfl
def runI (m b : Nat) : Nat → Nat
  | 0 => b % (m + 1)
  | n + 1 => (runI m b n * 5 + 1 + b / 32 ^ (n + 1)) % (m + 1)
theorem pow_div (b n : Nat) : b / 32 ^ n / 32 = b / 32 ^ (n + 1) := by
  rw [Nat.div_div_eq_div_mul, Nat.pow_succ]
theorem runI_le (m b : Nat) : ∀ n, runI m b n ≤ m
  | 0 => Nat.le_of_lt_succ (Nat.mod_lt _ (Nat.succ_pos _))
  | n + 1 => Nat.le_of_lt_succ (Nat.mod_lt _ (Nat.succ_pos _))
theorem run_nth (m b : Nat) : ∀ n, ∃ k, k ≤ 10 * n ∧ nth m (runAt m (b % (m + 1)) b) k = runAt m (runI m b n) (b / 32 ^ n)
  | 0 => ⟨0, Nat.le_refl _, by
    show runAt m (b % (m + 1)) b = runAt m (b % (m + 1)) (b / 32 ^ 0)
    rw [Nat.pow_zero, Nat.div_one]⟩
  | n + 1 => by
    obtain ⟨k, hk, e⟩ := run_nth m b n
    have hr := runEnd_bd (runI_le m b n)
    refine ⟨k + (SetTable.runEnd m (runI m b n) - runI m b n + 1), by omega, ?_⟩
    rw [nth_add, e, nth_leap]
    show runAt m ((runI m b n * 5 + 1 + b / 32 ^ n / 32) % (m + 1)) (b / 32 ^ n / 32) = _
    rw [pow_div]
    rfl
theorem runI_tail {m b : Nat} (hb : b < 2 ^ 64) : ∀ k, runI m b (12 + k) = lcgI m (runI m b 12) k
  | 0 => rfl
  | k + 1 => by
    have z : b / 32 ^ (12 + k + 1) = 0 := by
      refine Nat.div_eq_of_lt (Nat.lt_of_lt_of_le hb ?_)
      have e : (32 : Nat) ^ (12 + k + 1) = 32 ^ 13 * 32 ^ k := by
        rw [← Nat.pow_add]
        have e2 : 12 + k + 1 = 13 + k := by omega
        rw [e2]
      rw [e]
      have h1 : 0 < (32 : Nat) ^ k := Nat.pow_pos (by decide)
      have h2 : (2 : Nat) ^ 64 ≤ 32 ^ 13 := by decide
      exact Nat.le_trans h2 (Nat.le_mul_of_pos_right _ h1)
    show (runI m b (12 + k) * 5 + 1 + b / 32 ^ (12 + k + 1)) % (m + 1) = (lcgI m (runI m b 12) k * 5 + 1) % (m + 1)
    rw [z, runI_tail hb k, Nat.add_zero]
theorem bits_lt (h : Int) : SetTable.bits h < 2 ^ 64 := by
  unfold SetTable.bits
  have h1 := Int.emod_nonneg h (show ((2 : Int) ^ 64) ≠ 0 by decide)
  have h2 := Int.emod_lt_of_pos h (show (0 : Int) < 2 ^ 64 by decide)
  omega
theorem run_meets {m : Nat} (hm : MaskOk m) (h : Int) {j : Nat} (hj : j ≤ m) : ∃ n, n ≤ m + 12 ∧ runI m (SetTable.bits h) n = j := by
  obtain ⟨k, hk, e⟩ := lcgI_all hm (runI_le m (SetTable.bits h) 12) hj
  exact ⟨12 + k, by omega, by rw [runI_tail (bits_lt h)]; exact e⟩
theorem nth_meets {m : Nat} (hm : MaskOk m) (h : Int) {j : Nat} (hj : j ≤ m) : ∃ k, k < 10 * SetTable.turns m ∧ (nth m (runAt m (SetTable.bits h % (m + 1)) (SetTable.bits h)) k).j = j := by
  obtain ⟨n, hn, e⟩ := run_meets hm h hj
  obtain ⟨k, hk, e2⟩ := run_nth m (SetTable.bits h) n
  refine ⟨k, by unfold SetTable.turns; omega, ?_⟩
  rw [e2]
  exact e
theorem has_none (j : Nat) : SetTable.has #[] j = false := by
  unfold SetTable.has
  simp
theorem slot_live {t : SetTable} (r : Ris t.place.toList) {i j : Nat} (h : t.place.toList[i]? = some j) : t.slot j = .live i := by
  obtain ⟨c1, c2, c3⟩ := below_cut r j
  have hb : SetTable.below t.place j = i := by
    generalize SetTable.below t.place j = p at c1 c2 c3 ⊢
    rcases Nat.lt_trichotomy i p with k | k | k
    · exact absurd (c2 i j h k) (Nat.lt_irrefl _)
    · exact k.symm
    · have hl : i < t.place.toList.length := (List.getElem?_eq_some_iff.mp h).1
      have hp : p < t.place.toList.length := Nat.lt_trans k hl
      have e := List.getElem?_eq_getElem hp
      have h1 := c3 p _ e (Nat.le_refl _)
      have h2 := ris_lt r e h k
      exact absurd (Nat.lt_of_lt_of_le h2 h1) (Nat.lt_irrefl _)
  have e2 : t.place[i]? = some j := by rw [← Array.getElem?_toList]; exact h
  unfold SetTable.slot
  rw [hb]
  show (if (t.place[i]? == some j) = true then SetTable.Slot.live i else if SetTable.has t.dummies j = true then SetTable.Slot.dummy else SetTable.Slot.empty) = SetTable.Slot.live i
  rw [e2]
  simp
theorem slot_empty {t : SetTable} (hd : t.dummies = #[]) {j : Nat} (h : j ∉ t.place.toList) : t.slot j = .empty := by
  unfold SetTable.slot
  have e : (t.place[SetTable.below t.place j]? == some j) = false := by
    rcases Classical.em (t.place[SetTable.below t.place j]? = some j) with c | c
    · exact absurd (List.mem_of_getElem? (by rw [Array.getElem?_toList]; exact c)) h
    · exact beq_eq_false_iff_ne.mpr c
  rw [hd, has_none]
  simp only [e]
  rfl
theorem slot_cases {t : SetTable} (r : Ris t.place.toList) (hd : t.dummies = #[]) (j : Nat) : (j ∉ t.place.toList ∧ t.slot j = .empty) ∨ ∃ i, t.place.toList[i]? = some j ∧ t.slot j = .live i := by
  rcases Classical.em (j ∈ t.place.toList) with c | c
  · obtain ⟨i, hi, e⟩ := List.getElem_of_mem c
    have e2 : t.place.toList[i]? = some j := by rw [List.getElem?_eq_getElem hi, e]
    exact Or.inr ⟨i, e2, slot_live r e2⟩
  · exact Or.inl ⟨c, slot_empty hd c⟩
theorem go_spec (t : SetTable) (r : Ris t.place.toList) (hd : t.dummies = #[]) (hashAt : Nat → Int) (h : Int) : ∀ (f K : Nat) (p : SetTable.Probe), p.dummy = none → K < f →
    (∀ k, k < K → (nth t.mask p k).j ∈ t.place.toList) → (nth t.mask p K).j ∉ t.place.toList →
    (∃ k i, k < K ∧ t.place.toList[i]? = some (nth t.mask p k).j ∧ hashAt i = h ∧ (∀ k' i', k' < k → t.place.toList[i']? = some (nth t.mask p k').j → hashAt i' ≠ h) ∧
      SetTable.probe.go t hashAt h f p = some (.candidate (nth t.mask p k).j i (nth t.mask p (k + 1)))) ∨
    ((∀ k' i', k' < K → t.place.toList[i']? = some (nth t.mask p k').j → hashAt i' ≠ h) ∧ SetTable.probe.go t hashAt h f p = some (.empty (nth t.mask p K).j none))
  | 0, K, p, _, hK, _, _ => absurd hK (Nat.not_lt_zero _)
  | f + 1, 0, p, hp, _, _, he => by
    refine Or.inr ⟨fun k' i' hk => absurd hk (Nat.not_lt_zero _), ?_⟩
    have hs : t.slot p.j = .empty := slot_empty hd he
    unfold SetTable.probe.go
    rw [hs]
    show some (SetTable.Met.empty p.j p.dummy) = some (SetTable.Met.empty p.j none)
    rw [hp]
  | f + 1, K + 1, p, hp, hK, hin, he => by
    have h0 : p.j ∈ t.place.toList := hin 0 (Nat.succ_pos _)
    rcases slot_cases r hd p.j with ⟨c, _⟩ | ⟨i, hi, hs⟩
    · exact absurd h0 c
    · by_cases hh : hashAt i = h
      · refine Or.inl ⟨0, i, Nat.succ_pos _, hi, hh, fun k' i' hk => absurd hk (Nat.not_lt_zero _), ?_⟩
        unfold SetTable.probe.go
        rw [hs]
        show (if (hashAt i == h) = true then some (SetTable.Met.candidate p.j i (t.advance p)) else SetTable.probe.go t hashAt h f (t.advance p)) = _
        rw [if_pos (beq_iff_eq.mpr hh)]
        rfl
      · have e : SetTable.probe.go t hashAt h (f + 1) p = SetTable.probe.go t hashAt h f (adv t.mask p) := by
          conv => lhs; unfold SetTable.probe.go
          rw [hs]
          show (if (hashAt i == h) = true then some (SetTable.Met.candidate p.j i (t.advance p)) else SetTable.probe.go t hashAt h f (t.advance p)) = _
          rw [if_neg (by rw [beq_iff_eq]; exact hh)]
          rfl
        have hpd : (adv t.mask p).dummy = none := by
          unfold adv
          split <;> exact hp
        have one : ∀ i', t.place.toList[i']? = some p.j → hashAt i' ≠ h := fun i' hi' => by
          have e1 := slot_live r hi'
          rw [hs] at e1
          injection e1 with e1
          rw [← e1]
          exact hh
        rcases go_spec t r hd hashAt h f K (adv t.mask p) hpd (by omega) (fun k hk => hin (k + 1) (Nat.succ_lt_succ hk)) he with ⟨k, i2, a1, a2, a3, a4, a5⟩ | ⟨a1, a2⟩
        · refine Or.inl ⟨k + 1, i2, Nat.succ_lt_succ a1, a2, a3, fun k' i' hk hi' => ?_, by rw [e]; exact a5⟩
          cases k' with
          | zero => exact one i' hi'
          | succ k' => exact a4 k' i' (Nat.lt_of_succ_lt_succ hk) hi'
        · refine Or.inr ⟨fun k' i' hk hi' => ?_, by rw [e]; exact a2⟩
          cases k' with
          | zero => exact one i' hi'
          | succ k' => exact a1 k' i' (Nat.lt_of_succ_lt_succ hk) hi'
abbrev way (m : Nat) (h : Int) (k : Nat) : Nat := (nth m (runAt m (SetTable.bits h % (m + 1)) (SetTable.bits h)) k).j
structure TabOk (t : SetTable) (hs : List Int) : Prop where
  ris : Ris t.place.toList
  dm : t.dummies = #[]
  sz : t.place.size = hs.length
  mok : MaskOk t.mask
  bd : ∀ x ∈ t.place.toList, x ≤ t.mask
  reach : ∀ (i : Nat) (h : Int) (j : Nat), hs[i]? = some h → t.place.toList[i]? = some j → ∃ k, way t.mask h k = j ∧ ∀ k', k' < k → way t.mask h k' ∈ t.place.toList
theorem mask_odd {m : Nat} (h : MaskOk m) : m % 2 = 1 := by
  rcases h with e | e | e | e | e | e <;> subst e <;> rfl
theorem TabOk.first {t : SetTable} {hs : List Int} (T : TabOk t hs) (hl : hs.length ≤ t.mask) (h : Int) : ∃ K, K < 10 * SetTable.turns t.mask ∧ way t.mask h K ∉ t.place.toList ∧ ∀ k, k < K → way t.mask h k ∈ t.place.toList := by
  have hlen : t.place.toList.length < t.mask + 1 := by
    rw [Array.length_toList, T.sz]
    omega
  obtain ⟨j, hj, hn⟩ := st_missing t.place.toList (t.mask + 1) hlen
  obtain ⟨k, hk, e⟩ := nth_meets T.mok h (Nat.le_of_lt_succ hj)
  obtain ⟨K, h1, h2, h3⟩ := st_least (p := fun k => way t.mask h k ∉ t.place.toList) k (by show way t.mask h k ∉ _; rw [show way t.mask h k = j from e]; exact hn)
  refine ⟨K, Nat.lt_of_le_of_lt h1 hk, h2, fun k' hk' => ?_⟩
  rcases Classical.em (way t.mask h k' ∈ t.place.toList) with c | c
  · exact c
  · exact absurd c (h3 k' hk')
theorem TabOk.before {t : SetTable} {hs : List Int} (T : TabOk t hs) {h : Int} {K i j : Nat} (hK : way t.mask h K ∉ t.place.toList) (hi : hs[i]? = some h) (hj : t.place.toList[i]? = some j) : ∃ k, k < K ∧ way t.mask h k = j := by
  obtain ⟨k, e, hb⟩ := T.reach i h j hi hj
  refine ⟨k, ?_, e⟩
  rcases Nat.lt_trichotomy k K with c | c | c
  · exact c
  · rw [← c, e] at hK
    exact absurd (List.mem_of_getElem? hj) hK
  · exact absurd (hb K c) hK
end Tz
namespace Tz
open PySem PySem.Spec PyProof.Rows L2
theorem leap_le (m i b : Nat) : (SetTable.leap m i b).1 ≤ m := by
  show (i * 5 + 1 + b / 32) % (m + 1) ≤ m
  exact Nat.le_of_lt_succ (Nat.mod_lt _ (Nat.succ_pos _))
theorem adv_in {m : Nat} {p : SetTable.Probe} (h : p.j + p.more ≤ m) : (adv m p).j + (adv m p).more ≤ m := by
  unfold adv
  by_cases c : p.more > 0
  · rw [if_pos c]
    show p.j + 1 + (p.more - 1) ≤ m
    omega
  · rw [if_neg c]
    have r := runEnd_bd (leap_le m p.i p.perturb)
    show (SetTable.leap m p.i p.perturb).1 + (SetTable.runEnd m (SetTable.leap m p.i p.perturb).1 - (SetTable.leap m p.i p.perturb).1) ≤ m
    omega
theorem nth_in {m : Nat} : ∀ (k : Nat) (p : SetTable.Probe), p.j + p.more ≤ m → (nth m p k).j + (nth m p k).more ≤ m
  | 0, _, h => h
  | k + 1, p, h => nth_in k (adv m p) (adv_in h)
theorem way_le {m : Nat} (_hm : MaskOk m) {h : Int} {k : Nat} : way m h k ≤ m := by
  have hi : SetTable.bits h % (m + 1) ≤ m := Nat.le_of_lt_succ (Nat.mod_lt _ (Nat.succ_pos _))
  have r := runEnd_bd hi
  have q := nth_in (m := m) k (runAt m (SetTable.bits h % (m + 1)) (SetTable.bits h)) (by
    show SetTable.bits h % (m + 1) + (SetTable.runEnd m (SetTable.bits h % (m + 1)) - SetTable.bits h % (m + 1)) ≤ m
    omega)
  show (nth m (runAt m (SetTable.bits h % (m + 1)) (SetTable.bits h)) k).j ≤ m
  omega
theorem tins_get {α : Type} (l : List α) {p : Nat} (hp : p ≤ l.length) (x : α) (i : Nat) : (l.take p ++ x :: l.drop p)[i]? = if i < p then l[i]? else if i = p then some x else l[i - 1]? := by
  have ht : (l.take p).length = p := by
    rw [List.length_take]
    omega
  by_cases h1 : i < p
  · rw [if_pos h1, List.getElem?_append_left (by rw [ht]; exact h1)]
    simp [List.getElem?_take, h1]
  · rw [if_neg h1, List.getElem?_append_right (by rw [ht]; omega), ht]
    by_cases h2 : i = p
    · rw [if_pos h2, h2, Nat.sub_self] <;> rfl
    · rw [if_neg h2]
      obtain ⟨k, e⟩ : ∃ k, i - p = k + 1 := ⟨i - p - 1, by omega⟩
      have e2 : p + k = i - 1 := by omega
      rw [e, List.getElem?_cons_succ, List.getElem?_drop, e2]
theorem mem_ins {α : Type} {l : List α} {p : Nat} {x y : α} : x ∈ l.take p ++ y :: l.drop p ↔ x = y ∨ x ∈ l := by
  have e : x ∈ l ↔ x ∈ l.take p ∨ x ∈ l.drop p := by
    rw [← List.mem_append, List.take_append_drop]
  rw [List.mem_append, List.mem_cons]
  constructor
  · intro z
    rcases z with z | z | z
    · exact .inr (e.2 (.inl z))
    · exact .inl z
    · exact .inr (e.2 (.inr z))
  · intro z
    rcases z with z | z
    · exact .inr (.inl z)
    · rcases e.1 z with z | z
      · exact .inl z
      · exact .inr (.inr z)
theorem len_ins {α : Type} (l : List α) {p : Nat} (hp : p ≤ l.length) (x : α) : (l.take p ++ x :: l.drop p).length = l.length + 1 := by
  rw [List.length_append, List.length_cons, List.length_take, List.length_drop]
  omega
theorem put_place (t : SetTable) (j : Nat) : (t.put j).1.place.toList = t.place.toList.take (SetTable.below t.place j) ++ j :: t.place.toList.drop (SetTable.below t.place j) := SetTable.toList_insertAt _ _ _
theorem put_dm {t : SetTable} (hd : t.dummies = #[]) (j : Nat) : (t.put j).1.dummies = #[] := by
  show (if SetTable.has t.dummies j = true then SetTable.eraseAt t.dummies (SetTable.below t.dummies j) else t.dummies) = #[]
  rw [hd, has_none] <;> exact if_neg Bool.false_ne_true
theorem TabOk.put {t : SetTable} {hs : List Int} (T : TabOk t hs) {h : Int} {K : Nat} (hK : way t.mask h K ∉ t.place.toList) (hb : ∀ k, k < K → way t.mask h k ∈ t.place.toList) :
    (t.put (way t.mask h K)).2 = SetTable.below t.place (way t.mask h K) ∧ SetTable.below t.place (way t.mask h K) ≤ hs.length ∧
    TabOk (t.put (way t.mask h K)).1 (hs.take (SetTable.below t.place (way t.mask h K)) ++ h :: hs.drop (SetTable.below t.place (way t.mask h K))) ∧
    (t.put (way t.mask h K)).1.mask = t.mask ∧ (t.put (way t.mask h K)).1.led = t.led ∧ (t.put (way t.mask h K)).1.plain = t.plain ∧ (t.put (way t.mask h K)).1.moves = t.moves ∧ (t.put (way t.mask h K)).1.finger = t.finger ∧
    (t.put (way t.mask h K)).1.fill = hs.length + 1 := by
  have hjm : way t.mask h K ≤ t.mask := way_le T.mok
  obtain ⟨j, hj⟩ : ∃ j, j = way t.mask h K := ⟨_, rfl⟩
  rw [← hj] at hK hjm ⊢
  obtain ⟨c1, _, _⟩ := below_cut T.ris j
  have hpl : SetTable.below t.place j ≤ t.place.toList.length := by
    rw [Array.length_toList]
    exact c1
  have hph : SetTable.below t.place j ≤ hs.length := by
    rw [← T.sz]
    exact c1
  have hsz : t.place.toList.length = hs.length := by
    rw [Array.length_toList]
    exact T.sz
  have hnp : t.place[SetTable.below t.place j]? ≠ some j := fun e => hK (List.mem_of_getElem? (by rw [Array.getElem?_toList]; exact e))
  have hpp := put_place t j
  have hsize : (t.put j).1.place.size = hs.length + 1 := by
    rw [← Array.length_toList, hpp, len_ins _ hpl, hsz]
  have up : ∀ {x : Nat}, x ∈ t.place.toList → x ∈ (t.put j).1.place.toList := fun {x} hx => by
    rw [hpp]
    exact mem_ins.2 (.inr hx)
  refine ⟨rfl, hph, ⟨ris_insert T.ris hnp, put_dm T.dm j, ?_, T.mok, fun x hx => ?_, fun i h' j' h1 h2 => ?_⟩, rfl, rfl, rfl, rfl, rfl, ?_⟩
  · rw [len_ins _ hph]
    exact hsize
  · rw [hpp] at hx
    rcases mem_ins.1 hx with z | z
    · rw [z]
      exact hjm
    · exact T.bd x z
  · rw [tins_get hs hph] at h1
    rw [hpp, tins_get _ hpl] at h2
    show ∃ k, way t.mask h' k = j' ∧ ∀ k', k' < k → way t.mask h' k' ∈ (t.put j).1.place.toList
    by_cases c : i < SetTable.below t.place j
    · rw [if_pos c] at h1 h2
      obtain ⟨k, e, z⟩ := T.reach i h' j' h1 h2
      exact ⟨k, e, fun k' hk' => up (z k' hk')⟩
    · rw [if_neg c] at h1 h2
      by_cases d : i = SetTable.below t.place j
      · rw [if_pos d] at h1 h2
        have e1 : h = h' := Option.some.inj h1
        have e2 : j = j' := Option.some.inj h2
        subst e1
        subst e2
        exact ⟨K, hj.symm, fun k' hk' => up (hb k' hk')⟩
      · rw [if_neg d] at h1 h2
        obtain ⟨k, e, z⟩ := T.reach (i - 1) h' j' h1 h2
        exact ⟨k, e, fun k' hk' => up (z k' hk')⟩
  · show (t.put j).1.place.size + (t.put j).1.dummies.size = hs.length + 1
    rw [hsize, put_dm T.dm j] <;> rfl
theorem runEnd_ge (m i : Nat) : i ≤ SetTable.runEnd m i := by
  unfold SetTable.runEnd
  split <;> omega
theorem find_range' (p : Nat → Bool) : ∀ (n s k : Nat), s ≤ k → k < s + n → p k = true → (∀ k', s ≤ k' → k' < k → p k' = false) → (List.range' s n).find? p = some k
  | 0, s, k, h1, h2, _, _ => absurd h2 (by omega)
  | n + 1, s, k, h1, h2, hk, hb => by
    rw [List.range'_succ, List.find?_cons]
    by_cases c : s = k
    · subst c
      rw [hk] <;> rfl
    · rw [hb s (Nat.le_refl _) (by omega)]
      exact find_range' p n (s + 1) k (by omega) (by omega) hk fun k' a b => hb k' (by omega) b
theorem find_range (p : Nat → Bool) {n k : Nat} (h : k < n) (hk : p k = true) (hb : ∀ k', k' < k → p k' = false) : (List.range n).find? p = some k := by
  rw [List.range_eq_range']
  exact find_range' p n 0 k (Nat.zero_le _) (by omega) hk fun k' _ b => hb k' b
theorem find_range_none (p : Nat → Bool) {n : Nat} (hb : ∀ k', k' < n → p k' = false) : (List.range n).find? p = none := by
  rw [List.find?_eq_none]
  intro x hx hp
  rw [hb x (List.mem_range.mp hx)] at hp
  cases hp
abbrev oAt (owner : Array (Option Nat)) (j : Nat) : Option Nat := owner.getD j (some 0)
def pickR (x : Option Nat) (i : Nat) (y : Option Nat) : Option Nat := match x with
  | some k => some (i + k)
  | none => y
theorem free_succ (m : Nat) (owner : Array (Option Nat)) (f i b : Nat) : SetTable.layClean.free m owner (f + 1) i b =
    pickR ((List.range (SetTable.runEnd m i + 1 - i)).find? fun k => (oAt owner (i + k)).isNone) i (SetTable.layClean.free m owner f (SetTable.leap m i b).1 (SetTable.leap m i b).2) := rfl
def off (m : Nat) : Nat → Nat → Nat → Nat
  | _, _, 0 => 0
  | i, b, n + 1 => (SetTable.runEnd m i - i + 1) + off m (SetTable.leap m i b).1 (SetTable.leap m i b).2 n
theorem free_spec (m : Nat) (owner : Array (Option Nat)) : ∀ (f n i b K : Nat), n < f → K ≤ off m i b n → (∀ k, k < K → (oAt owner (nth m (runAt m i b) k).j).isNone = false) → (oAt owner (nth m (runAt m i b) K).j).isNone = true →
    SetTable.layClean.free m owner f i b = some (nth m (runAt m i b) K).j
  | 0, _, _, _, _, hn, _, _, _ => absurd hn (Nat.not_lt_zero _)
  | f + 1, n, i, b, K, hn, hK, hocc, hfree => by
    have hge := runEnd_ge m i
    by_cases c : K ≤ SetTable.runEnd m i - i
    · have e := nth_run m i b K c
      have hf : ((List.range (SetTable.runEnd m i + 1 - i)).find? fun k => (oAt owner (i + k)).isNone) = some K :=
        find_range _ (by omega) (by rw [e] at hfree; exact hfree) fun k' hk' => by
          have q := hocc k' hk'
          rw [nth_run m i b k' (by omega)] at q
          exact q
      rw [free_succ, hf]
      exact congrArg some (congrArg SetTable.Probe.j e).symm
    · have hf : ((List.range (SetTable.runEnd m i + 1 - i)).find? fun k => (oAt owner (i + k)).isNone) = none :=
        find_range_none _ fun k' hk' => by
          have q := hocc k' (by omega)
          rw [nth_run m i b k' (by omega)] at q
          exact q
      cases n with
      | zero =>
        have z : K ≤ 0 := hK
        omega
      | succ n =>
        have z : K ≤ (SetTable.runEnd m i - i + 1) + off m (SetTable.leap m i b).1 (SetTable.leap m i b).2 n := hK
        obtain ⟨K', eK⟩ : ∃ K', K = SetTable.runEnd m i - i + 1 + K' := ⟨K - (SetTable.runEnd m i - i + 1), by omega⟩
        subst eK
        have shift : ∀ k, nth m (runAt m i b) (SetTable.runEnd m i - i + 1 + k) = nth m (runAt m (SetTable.leap m i b).1 (SetTable.leap m i b).2) k := fun k => by
          rw [nth_add, nth_leap]
        have ih := free_spec m owner f n (SetTable.leap m i b).1 (SetTable.leap m i b).2 K' (by omega) (by omega)
          (fun k hk => by
            have q := hocc (SetTable.runEnd m i - i + 1 + k) (by omega)
            rw [shift] at q
            exact q)
          (by rw [shift] at hfree; exact hfree)
        rw [free_succ, hf, shift]
        exact ih
def itL (m : Nat) : Nat → Nat → Nat → Nat × Nat
  | i, b, 0 => (i, b)
  | i, b, n + 1 => itL m (SetTable.leap m i b).1 (SetTable.leap m i b).2 n
theorem itL_back (m : Nat) : ∀ (n i b : Nat), itL m i b (n + 1) = SetTable.leap m (itL m i b n).1 (itL m i b n).2
  | 0, _, _ => rfl
  | n + 1, i, b => itL_back m n (SetTable.leap m i b).1 (SetTable.leap m i b).2
theorem nth_off (m : Nat) : ∀ (n i b : Nat), nth m (runAt m i b) (off m i b n) = runAt m (itL m i b n).1 (itL m i b n).2
  | 0, _, _ => rfl
  | n + 1, i, b => by
    show nth m (runAt m i b) ((SetTable.runEnd m i - i + 1) + off m (SetTable.leap m i b).1 (SetTable.leap m i b).2 n) = _
    rw [nth_add, nth_leap]
    exact nth_off m n _ _
theorem itL_run (m b : Nat) : ∀ n, itL m (b % (m + 1)) b n = (runI m b n, b / 32 ^ n)
  | 0 => by
    show (b % (m + 1), b) = (b % (m + 1), b / 32 ^ 0)
    rw [Nat.pow_zero, Nat.div_one]
  | n + 1 => by
    rw [itL_back, itL_run m b n]
    show ((runI m b n * 5 + 1 + b / 32 ^ n / 32) % (m + 1), b / 32 ^ n / 32) = _
    rw [pow_div] <;> rfl
theorem free_find {m : Nat} (hm : MaskOk m) (owner : Array (Option Nat)) (h : Int) {j : Nat} (hj : j ≤ m) (hf : oAt owner j = none) :
    ∃ K, SetTable.layClean.free m owner (SetTable.turns m) (SetTable.bits h % (m + 1)) (SetTable.bits h) = some (way m h K) ∧ oAt owner (way m h K) = none ∧ ∀ k, k < K → oAt owner (way m h k) ≠ none := by
  obtain ⟨n, hn, e⟩ := run_meets hm h hj
  have hw : way m h (off m (SetTable.bits h % (m + 1)) (SetTable.bits h) n) = j := by
    show (nth m (runAt m (SetTable.bits h % (m + 1)) (SetTable.bits h)) (off m (SetTable.bits h % (m + 1)) (SetTable.bits h) n)).j = j
    rw [nth_off, itL_run]
    exact e
  obtain ⟨K, k1, k2, k3⟩ := st_least (p := fun k => oAt owner (way m h k) = none) (off m (SetTable.bits h % (m + 1)) (SetTable.bits h) n) (by
    show oAt owner (way m h (off m (SetTable.bits h % (m + 1)) (SetTable.bits h) n)) = none
    rw [show way m h (off m (SetTable.bits h % (m + 1)) (SetTable.bits h) n) = j from hw]
    exact hf)
  refine ⟨K, ?_, k2, k3⟩
  refine free_spec m owner (SetTable.turns m) n _ _ K (by unfold SetTable.turns; omega) k1 (fun k hk => ?_) ?_
  · have q := k3 k hk
    cases z : oAt owner (nth m (runAt m (SetTable.bits h % (m + 1)) (SetTable.bits h)) k).j with
    | none => exact absurd z q
    | some _ => rfl
  · have q : oAt owner (nth m (runAt m (SetTable.bits h % (m + 1)) (SetTable.bits h)) K).j = none := k2
    rw [q] <;> rfl
theorem oAt_set_self {owner : Array (Option Nat)} {j : Nat} (v : Option Nat) (hj : j < owner.size) : oAt (owner.setIfInBounds j v) j = v := by
  show (owner.setIfInBounds j v).getD j (some 0) = v
  rw [Array.getD_eq_getD_getElem?, Array.getElem?_setIfInBounds, if_pos rfl, if_pos hj] <;> rfl
theorem oAt_set_ne {owner : Array (Option Nat)} {i j : Nat} (v : Option Nat) (h : i ≠ j) : oAt (owner.setIfInBounds j v) i = oAt owner i := by
  show (owner.setIfInBounds j v).getD i (some 0) = owner.getD i (some 0)
  rw [Array.getD_eq_getD_getElem?, Array.getD_eq_getD_getElem?, Array.getElem?_setIfInBounds, if_neg (Ne.symm h)]
theorem oAt_init {m j : Nat} (hj : j ≤ m) : oAt (Array.replicate (m + 1) none) j = none := by
  have h : j < m + 1 := Nat.lt_succ_of_le hj
  show (Array.replicate (m + 1) (none : Option Nat)).getD j (some 0) = none
  rw [Array.getD_eq_getD_getElem?, Array.getElem?_replicate, if_pos h] <;> rfl
theorem oAt_none {owner : Array (Option Nat)} {j : Nat} (hj : j < owner.size) : owner.getD j none = oAt owner j := by
  show owner.getD j none = owner.getD j (some 0)
  rw [Array.getD_eq_getD_getElem?, Array.getD_eq_getD_getElem?, Array.getElem?_eq_getElem hj] <;> rfl
structure Own (m : Nat) (done : List Int) (owner : Array (Option Nat)) : Prop where
  sz : owner.size = m + 1
  at_ : ∀ j k, j ≤ m → oAt owner j = some k → ∃ h K, done[k]? = some h ∧ way m h K = j ∧ ∀ k', k' < K → oAt owner (way m h k') ≠ none
  all : ∀ k, k < done.length → ∃ j, j ≤ m ∧ oAt owner j = some k
  ps : ∃ ps : List Nat, ps.length = done.length ∧ ∀ j, j ≤ m → oAt owner j ≠ none → j ∈ ps
theorem Own.init (m : Nat) : Own m [] (Array.replicate (m + 1) none) where
  sz := by simp
  at_ := fun j k hj e => by
    rw [oAt_init hj] at e
    cases e
  all := fun k hk => absurd hk (Nat.not_lt_zero _)
  ps := ⟨[], rfl, fun j hj e => absurd (oAt_init hj) e⟩
theorem Own.step {m : Nat} (hm : MaskOk m) {done : List Int} {owner : Array (Option Nat)} (W : Own m done owner) (hl : done.length ≤ m) (h : Int) :
    ∃ j, SetTable.layClean.free m owner (SetTable.turns m) (SetTable.bits h % (m + 1)) (SetTable.bits h) = some j ∧ Own m (done ++ [h]) (owner.setIfInBounds j (some done.length)) := by
  obtain ⟨ps, hps, hin⟩ := W.ps
  obtain ⟨j0, h0, hn0⟩ := st_missing ps (m + 1) (by omega)
  have hj0 : oAt owner j0 = none := by
    cases z : oAt owner j0 with
    | none => rfl
    | some k => exact absurd (hin j0 (Nat.le_of_lt_succ h0) (by rw [z]; exact fun e => nomatch e)) hn0
  obtain ⟨K, e1, e2, e3⟩ := free_find hm owner h (Nat.le_of_lt_succ h0) hj0
  have hjm : way m h K ≤ m := way_le hm
  have hjs : way m h K < owner.size := by
    rw [W.sz]
    exact Nat.lt_succ_of_le hjm
  refine ⟨way m h K, e1, ?_⟩
  have hself := oAt_set_self (some done.length) hjs
  have mono : ∀ {i : Nat}, oAt owner i ≠ none → oAt (owner.setIfInBounds (way m h K) (some done.length)) i ≠ none := fun {i} hi => by
    by_cases c : i = way m h K
    · rw [c, hself]
      exact fun e => nomatch e
    · rw [oAt_set_ne _ c]
      exact hi
  refine ⟨by rw [Array.size_setIfInBounds]; exact W.sz, fun j k hj e => ?_, fun k hk => ?_, ⟨way m h K :: ps, by rw [List.length_cons, List.length_append, hps] <;> rfl, fun j hj e => ?_⟩⟩
  · by_cases c : j = way m h K
    · rw [c, hself] at e
      have ek : done.length = k := Option.some.inj e
      refine ⟨h, K, ?_, c.symm, fun k' hk' => mono (e3 k' hk')⟩
      rw [← ek, List.getElem?_append_right (Nat.le_refl _), Nat.sub_self] <;> rfl
    · rw [oAt_set_ne _ c] at e
      obtain ⟨h', K', a1, a2, a3⟩ := W.at_ j k hj e
      refine ⟨h', K', ?_, a2, fun k' hk' => mono (a3 k' hk')⟩
      rw [List.getElem?_append_left (List.getElem?_eq_some_iff.mp a1).1]
      exact a1
  · rw [List.length_append, List.length_singleton] at hk
    by_cases c : k < done.length
    · obtain ⟨j, hj, e⟩ := W.all k c
      refine ⟨j, hj, ?_⟩
      rw [oAt_set_ne _ (fun z => by rw [z, e2] at e; cases e)]
      exact e
    · have ek : k = done.length := by omega
      rw [ek]
      exact ⟨way m h K, hjm, hself⟩
  · by_cases c : j = way m h K
    · rw [c]
      exact List.mem_cons_self
    · rw [oAt_set_ne _ c] at e
      exact List.mem_cons_of_mem _ (hin j hj e)
def stepF (mask : Nat) (acc : Option (Array (Option Nat) × Nat)) (h : Int) : Option (Array (Option Nat) × Nat) := do
  let (owner, k) ← acc
  let j ← SetTable.layClean.free mask owner (SetTable.turns mask) (SetTable.bits h % (mask + 1)) (SetTable.bits h)
  pure (owner.setIfInBounds j (some k), k + 1)
theorem layClean_eq (m : Nat) (hs : Array Int) : SetTable.layClean m hs = (hs.toList.foldl (stepF m) (some (Array.replicate (m + 1) none, 0))).map (·.1) := by
  unfold SetTable.layClean
  rw [← Array.foldl_toList] <;> rfl
theorem stepF_some {m k j : Nat} {owner : Array (Option Nat)} {h : Int} (e : SetTable.layClean.free m owner (SetTable.turns m) (SetTable.bits h % (m + 1)) (SetTable.bits h) = some j) :
    stepF m (some (owner, k)) h = some (owner.setIfInBounds j (some k), k + 1) := by
  show (SetTable.layClean.free m owner (SetTable.turns m) (SetTable.bits h % (m + 1)) (SetTable.bits h)).bind (fun j => some (owner.setIfInBounds j (some k), k + 1)) = _
  rw [e] <;> rfl
theorem fold_ok {m : Nat} (hm : MaskOk m) : ∀ (rest done : List Int) (owner : Array (Option Nat)), Own m done owner → done.length + rest.length ≤ m →
    ∃ owner', rest.foldl (stepF m) (some (owner, done.length)) = some (owner', (done ++ rest).length) ∧ Own m (done ++ rest) owner'
  | [], done, owner, W, _ => ⟨owner, by rw [List.append_nil] <;> rfl, by rw [List.append_nil]; exact W⟩
  | h :: rest, done, owner, W, hl => by
    rw [List.length_cons] at hl
    obtain ⟨j, e, W'⟩ := W.step hm (by omega) h
    have hl' : (done ++ [h]).length = done.length + 1 := by rw [List.length_append] <;> rfl
    obtain ⟨owner', f, W2⟩ := fold_ok hm rest (done ++ [h]) _ W' (by rw [hl']; omega)
    have ea : done ++ [h] ++ rest = done ++ h :: rest := by rw [List.append_assoc] <;> rfl
    rw [ea, hl'] at f
    rw [ea] at W2
    refine ⟨owner', ?_, W2⟩
    rw [List.foldl_cons, stepF_some e]
    exact f
theorem layClean_ok {m : Nat} (hm : MaskOk m) {hs : Array Int} (hn : hs.size ≤ m) : ∃ owner, SetTable.layClean m hs = some owner ∧ Own m hs.toList owner := by
  obtain ⟨owner, f, W⟩ := fold_ok hm hs.toList [] _ (Own.init m) (by rw [Array.length_toList]; show 0 + hs.size ≤ m; omega)
  rw [List.nil_append] at W
  refine ⟨owner, ?_, W⟩
  rw [layClean_eq]
  have f' : hs.toList.foldl (stepF m) (some (Array.replicate (m + 1) none, 0)) = some (owner, ([] ++ hs.toList).length) := f
  rw [f'] <;> rfl
def liveOf (m : Nat) (owner : Array (Option Nat)) : List (Nat × Nat) := (List.range (m + 1)).filterMap fun j => (owner.getD j none).map (j, ·)
def tabOf (t : SetTable) (m : Nat) (owner : Array (Option Nat)) : SetTable :=
  { mask := m, place := ((liveOf m owner).map (·.1)).toArray, dummies := #[], finger := t.finger, led := t.led, moves := t.movedTo m, plain := t.plain }
theorem relaid_eq (t : SetTable) (hs : Array Int) (wanted : Nat) : t.relaid hs wanted = (SetTable.layClean (SetTable.sizeAbove wanted - 1) hs).bind fun owner =>
    some (tabOf t (SetTable.sizeAbove wanted - 1) owner, ((liveOf (SetTable.sizeAbove wanted - 1) owner).map (·.2)).toArray) := rfl
theorem mem_live {m : Nat} {owner : Array (Option Nat)} (hs : owner.size = m + 1) {j k : Nat} : (j, k) ∈ liveOf m owner ↔ j ≤ m ∧ oAt owner j = some k := by
  unfold liveOf
  rw [List.mem_filterMap]
  constructor
  · intro z
    obtain ⟨a, ha, e⟩ := z
    have ham : a < m + 1 := List.mem_range.mp ha
    rw [oAt_none (by rw [hs]; exact ham)] at e
    obtain ⟨x, hx, ex⟩ := Option.map_eq_some_iff.mp e
    have e1 : a = j := congrArg Prod.fst ex
    have e2 : x = k := congrArg Prod.snd ex
    subst e1
    subst e2
    exact ⟨Nat.le_of_lt_succ ham, hx⟩
  · intro z
    obtain ⟨hj, e⟩ := z
    refine ⟨j, List.mem_range.mpr (Nat.lt_succ_of_le hj), ?_⟩
    rw [oAt_none (by rw [hs]; exact Nat.lt_succ_of_le hj), e] <;> rfl
theorem perm_range : ∀ (n : Nat) (l : List Nat), l.length = n → (∀ k, k < n → k ∈ l) → l.Perm (List.range n)
  | 0, l, hl, _ => by
    rw [List.eq_nil_of_length_eq_zero hl]
    exact List.Perm.refl _
  | n + 1, l, hl, h => by
    have hn : n ∈ l := h n (Nat.lt_succ_self n)
    have ih := perm_range n (l.erase n) (by rw [List.length_erase_of_mem hn]; omega) fun k hk => (List.mem_erase_of_ne (Nat.ne_of_lt hk)).2 (h k (Nat.lt_succ_of_lt hk))
    rw [List.range_succ]
    exact (List.perm_cons_erase hn).trans ((ih.cons n).trans (List.perm_append_singleton n _).symm)
theorem relaid_ok (t : SetTable) {hs : Array Int} {wanted M : Nat} (hw : SetTable.sizeAbove wanted - 1 = M) (hM : MaskOk M) (hn : hs.size ≤ M) :
    ∃ t' order, t.relaid hs wanted = some (t', order) ∧ order.toList.Perm (List.range hs.size) ∧ TabOk t' (order.toList.map fun i => hs.getD i 0) ∧ t'.mask = M ∧ t'.led = t.led ∧ t'.plain = t.plain ∧ t'.dummies = #[] := by
  obtain ⟨owner, e, W⟩ := layClean_ok hM hn
  have hr : t.relaid hs wanted = some (tabOf t M owner, ((liveOf M owner).map (·.2)).toArray) := by
    rw [relaid_eq, hw, e] <;> rfl
  have ris := ris_live (fun j => owner.getD j none) (List.range (M + 1)) (by
    unfold Ris
    first | exact List.pairwise_lt_range | exact List.pairwise_lt_range _)
  have r1 : Ris ((liveOf M owner).map (·.1)) := ris.1
  have r2 : ∀ x ∈ (liveOf M owner).map (·.1), x ∈ List.range (M + 1) := ris.2
  have nd : ((liveOf M owner).map (·.1)).Nodup := List.Pairwise.imp (fun h => Nat.ne_of_lt h) r1
  have hlen : (liveOf M owner).length = hs.size := by
    obtain ⟨ps, p1, p2⟩ := W.ps
    have a := nat_nodup_len ((liveOf M owner).map (·.1)) ps nd fun x hx => by
      obtain ⟨q, hq, eq1⟩ := List.mem_map.mp hx
      obtain ⟨y, k⟩ := q
      have ey : y = x := eq1
      subst ey
      obtain ⟨b1, b2⟩ := (mem_live W.sz).1 hq
      exact p2 y b1 (by rw [b2]; exact fun z => nomatch z)
    have b := nat_nodup_len (List.range hs.size) ((liveOf M owner).map (·.2)) List.nodup_range fun k hk => by
      obtain ⟨j, b1, b2⟩ := W.all k (by rw [Array.length_toList]; exact List.mem_range.mp hk)
      exact List.mem_map.mpr ⟨(j, k), (mem_live W.sz).2 ⟨b1, b2⟩, rfl⟩
    rw [List.length_map, p1] at a
    rw [List.length_map, List.length_range] at b
    have hz : hs.toList.length = hs.size := rfl
    omega
  refine ⟨tabOf t M owner, ((liveOf M owner).map (·.2)).toArray, hr, ?_, ⟨r1, rfl, ?_, hM, fun x hx => ?_, fun i h j h1 h2 => ?_⟩, rfl, rfl, rfl, rfl⟩
  · refine perm_range hs.size _ ?_ fun k hk => ?_
    · show ((liveOf M owner).map (·.2)).length = hs.size
      rw [List.length_map]
      exact hlen
    · obtain ⟨j, b1, b2⟩ := W.all k (by rw [Array.length_toList]; exact hk)
      exact List.mem_map.mpr ⟨(j, k), (mem_live W.sz).2 ⟨b1, b2⟩, rfl⟩
  · show ((liveOf M owner).map (·.1)).toArray.size = (((liveOf M owner).map (·.2)).map fun i => hs.getD i 0).length
    rw [List.size_toArray, List.length_map, List.length_map, List.length_map]
  · exact Nat.le_of_lt_succ (List.mem_range.mp (r2 x hx))
  · have h1' : (((liveOf M owner).map (·.2)).map fun i => hs.getD i 0)[i]? = some h := h1
    have h2' : ((liveOf M owner).map (·.1))[i]? = some j := h2
    rw [List.getElem?_map, List.getElem?_map] at h1'
    rw [List.getElem?_map] at h2'
    cases hq : (liveOf M owner)[i]? with
    | none =>
      rw [hq] at h2'
      cases h2'
    | some q =>
      obtain ⟨y, k⟩ := q
      rw [hq] at h1' h2'
      have ej : y = j := Option.some.inj h2'
      have eh : hs.getD k 0 = h := Option.some.inj h1'
      subst ej
      obtain ⟨b1, b2⟩ := (mem_live W.sz).1 (List.mem_of_getElem? hq)
      obtain ⟨h0, K, a1, a2, a3⟩ := W.at_ y k b1 b2
      have e0 : hs.getD k 0 = h0 := by
        rw [Array.getD_eq_getD_getElem?, ← Array.getElem?_toList, a1] <;> rfl
      have ehh : h0 = h := e0.symm.trans eh
      subst ehh
      refine ⟨K, a2, fun k' hk' => ?_⟩
      show way M h0 k' ∈ (liveOf M owner).map (·.1)
      cases z : oAt owner (way M h0 k') with
      | none => exact absurd z (a3 k' hk')
      | some k2 => exact List.mem_map.mpr ⟨(way M h0 k', k2), (mem_live W.sz).2 ⟨way_le hM, z⟩, rfl⟩
theorem size_20 : SetTable.sizeAbove (SetTable.grown 5) = 32 := by decide +kernel
theorem size_76 : SetTable.sizeAbove (SetTable.grown 19) = 128 := by decide +kernel
theorem size_308 : SetTable.sizeAbove (SetTable.grown 77) = 512 := by decide +kernel
theorem size_1228 : SetTable.sizeAbove (SetTable.grown 307) = 2048 := by decide +kernel
theorem size_4916 : SetTable.sizeAbove (SetTable.grown 1229) = 8192 := by decide +kernel
end Tz
namespace Tz
open PySem PySem.Spec PyProof.Rows L2
abbrev TK (P : Program) (w : World) : HeapKind P w (List Key) := tupleKind (mixKind P w)
abbrev thash (P : Program) (w : World) (k : List Key) : Int := tupleKeyHash (mixKind P w) k
abbrev IsT (P : Program) (w : World) (h : Heap) (k : List Key) (a : Addr) : Prop := IsTupleKey (mixKind P w) h k a
def searchRest (a : Addr) (x : Value) (h : Int) (adding : Bool) (fuel : Nat) (es : Array (Int × Value)) (t : SetTable) (j i : Nat) (next : SetTable.Probe) : Sem SetFound := do
  let some (_, y) := es[i]? | unsupported "internal:set-entry"
  let equal ← holding [y] (eqBool y x)
  let (es', _, t') ← setState a
  if adding && equal then return .there none
  let some same := t'.sameMemory t.moves t.mask | unsupported "set.changed-during-lookup:is-the-new-block-at-the-old-address"
  let still ← match (if same then t'.slot j else .empty) with
    | .live i' => match es'[i']? with
      | some (_, y') => do pure (if ← isSame y' y then some i' else none)
      | none => pure none
    | _ => pure none
  match still with
  | none => rule "set.search.anew"; setSearchFrom a x h adding fuel none
  | some i' => if equal then return .there (some i') else setSearchFrom a x h adding fuel (some next)
theorem setSearchFrom_succ (a : Addr) (x : Value) (h : Int) (adding : Bool) (fuel : Nat) (stand : Option SetTable.Probe) : setSearchFrom a x h adding (fuel + 1) stand = (do
    let (es, _, t) ← setState a
    if t.gaveWay then unsupported "set:on-a-table-that-gave-way"
    let some met := t.probe (fun i => (es[i]?.map (·.1)).getD 0) h (stand.getD (t.probeStart h)) | unsupported "internal:set-table-without-an-empty-slot"
    match met with
    | .empty j dummy =>
      match dummy with
      | none => return .free j false
      | some d =>
        if adding && t.slot d != .dummy then rule "set.search.the-dummy-was-taken"; return ← setSearchFrom a x h adding fuel none
        return .free d true
    | .candidate j i next =>
      if !t.led then
        if ← searchCouldBeSeen x ((es.filter (·.1 == h)).toList.map (·.2)) then unsupported "set:the-search-would-show-the-table"
      searchRest a x h adding fuel es t j i next) := by rfl
section
variable {P : Program} {w : World} {A : Around} {E : Value → Shared → Prop} {s : Shared}
theorem items_int {k : List Key} {vs : List Value} (h : ItemsAre (mixKind P w) k vs) : ∀ v ∈ vs, Flat1 v := by
  induction h with
  | nil => intro v hv; cases hv
  | @cons k0 v' ks vs h1 _ ih =>
    intro v hv
    rcases List.mem_cons.mp hv with e | hv
    · rw [e]
      rcases keyIs_shape h1 with ⟨i, t, _, e2⟩ | ⟨x, t, _, e2⟩
      · exact .inl ⟨i, t, e2⟩
      · exact .inr ⟨x, t, e2⟩
    · exact ih v hv
theorem ofAClass_f {v : Value} (h : Flat1 v) {n : Nat} : ofAClassStatement n v = pure false := by
  rcases h with ⟨i, t, rfl⟩ | ⟨x, t, rfl⟩ <;> cases n <;> rfl
theorem hashBy_f {v : Value} (h : Flat1 v) {n : Nat} : ∃ c, hashByValue n v = pure c := by
  rcases h with ⟨i, t, rfl⟩ | ⟨x, t, rfl⟩
  · exact ⟨true, by cases n <;> rfl⟩
  · exact ⟨false, by cases n <;> rfl⟩
theorem ofAClass_tup {k : List Key} {b : Addr} {Q : Bool → Shared → Prop} (hk : IsT P w s.heap k b) (h : Q false s) : wpAny (model P w) A (ofAClassStatement 8 (.ref b)) Q E s := by
  have hT := hk.typeIs
  obtain ⟨o, items, n, ho, _, hd, hi⟩ := hk
  unfold ofAClassStatement
  refine wpAny_bind (wpAny_typeOf hT ?_)
  dsimp only
  have e : (("tuple" : String) == "tuple") = true := by decide
  simp only [e, if_true, Bool.not_true, Bool.false_eq_true, if_false]
  try refine wpAny_bind (wpAny_pure ?_)
  try simp only [Bool.not_true, Bool.false_eq_true, if_false]
  show wpAny _ _ (seqItems? (.ref b) >>= _) _ _ s
  refine wpAny_bind (wpAny_seqItems ho hd ?_)
  dsimp only
  refine wpAny_bind ?_
  show wpAny _ _ (forIn items _ _) _ _ s
  rw [← Array.forIn_toList]
  refine wpAny_forIn_list _ (fun rest r s' => r.1 = none ∧ s' = s ∧ ∀ v ∈ rest, Flat1 v) _ ?_ ?_ _ _ ⟨rfl, rfl, items_int hi⟩
  · rintro v rest r s' ⟨hr, rfl, hall⟩
    rw [ofAClass_f (hall v List.mem_cons_self)]
    refine wpAny_bind (wpAny_pure ?_)
    simp only [Bool.false_eq_true, if_false]
    exact wpAny_pure ⟨rfl, rfl, fun u hu' => hall u (List.mem_cons_of_mem _ hu')⟩
  · rintro ⟨r1, r2⟩ s' ⟨hr, rfl, _⟩
    simp only at hr
    subst hr
    exact wpAny_pure h
theorem hashBy_tup {k : List Key} {b : Addr} {Q : Bool → Shared → Prop} (hk : IsT P w s.heap k b) (h : ∀ c, Q c s) : wpAny (model P w) A (hashByValue 8 (.ref b)) Q E s := by
  have hT := hk.typeIs
  obtain ⟨o, items, n, ho, _, hd, hi⟩ := hk
  unfold hashByValue
  refine wpAny_bind (wpAny_specialOf hT F.slot_tuple_hash.lookup ?_)
  show wpAny _ _ (seqItems? (.ref b) >>= _) _ _ s
  refine wpAny_bind (wpAny_seqItems ho hd ?_)
  refine wpAny_bind ?_
  show wpAny _ _ (forIn items _ _) _ _ s
  rw [← Array.forIn_toList]
  refine wpAny_forIn_list _ (fun rest r s' => r.1 = none ∧ s' = s ∧ ∀ v ∈ rest, Flat1 v) _ ?_ ?_ _ _ ⟨rfl, rfl, items_int hi⟩
  · rintro v rest r s' ⟨hr, rfl, hall⟩
    obtain ⟨cc, ec⟩ := hashBy_f (hall v List.mem_cons_self) (n := 7)
    rw [ec]
    refine wpAny_bind (wpAny_pure ?_)
    cases cc with
    | true =>
      simp only [Bool.not_true, Bool.false_eq_true, if_false]
      exact wpAny_pure ⟨rfl, rfl, fun u hu' => hall u (List.mem_cons_of_mem _ hu')⟩
    | false =>
      simp only [Bool.not_false, if_true]
      exact wpAny_pure (wpAny_pure (h false))
  · rintro ⟨r1, r2⟩ s' ⟨hr, rfl, _⟩
    simp only at hr
    subst hr
    exact wpAny_pure (h true)
theorem seen_tup {k : List Key} {b : Addr} {Q : Bool → Shared → Prop} (hk : IsT P w s.heap k b) {ys : List Value} (hy : ∀ y ∈ ys, ∃ k' c, y = Value.ref c ∧ IsT P w s.heap k' c) (h : Q false s) :
    wpAny (model P w) A (searchCouldBeSeen (.ref b) ys) Q E s := by
  unfold searchCouldBeSeen
  refine wpAny_bind ?_
  refine wpAny_forIn_list _ (fun rest r s' => r.1 = none ∧ s' = s ∧ ∀ y ∈ rest, ∃ k' c, y = Value.ref c ∧ IsT P w s.heap k' c) _ ?_ ?_ _ _ ⟨rfl, rfl, hy⟩
  · rintro v rest r s' ⟨hr, rfl, hall⟩
    obtain ⟨k', c, rfl, hc⟩ := hall v List.mem_cons_self
    have rest' : ∀ y ∈ rest, ∃ k' c, y = Value.ref c ∧ IsT P w s'.heap k' c := fun u hu' => hall u (List.mem_cons_of_mem _ hu')
    dsimp only
    by_cases hv : (b == c || (carriedByValue (.ref b) && carriedByValue (.ref c))) = true
    · refine wp_if_pos hv ?_
      exact wpAny_pure ⟨rfl, rfl, rest'⟩
    · refine wp_if_neg hv ?_
      refine wpAny_bind (wpAny_eqIsQuiet_tuple hk ?_)
      simp only [Bool.not_true, Bool.false_eq_true, if_false]
      refine wpAny_bind (wpAny_eqIsQuiet_tuple hc ?_)
      simp only [Bool.not_true, Bool.false_eq_true, if_false]
      refine wpAny_bind (ofAClass_tup hk ?_)
      simp only [Bool.false_eq_true, if_false]
      refine wpAny_bind (ofAClass_tup hc ?_)
      simp only [Bool.false_eq_true, if_false]
      exact wpAny_pure ⟨rfl, rfl, rest'⟩
  · rintro ⟨r1, r2⟩ s' ⟨hr, rfl, _⟩
    simp only at hr
    subst hr
    exact wpAny_pure h
def rowsOf (P : Program) (w : World) (L : List (Addr × List Key)) : List (Int × Value) := L.map fun p => (thash P w p.2, Value.ref p.1)
structure SetTR (P : Program) (w : World) (h : Heap) (a : Addr) (L : List (Addr × List Key)) (es : Array (Int × Value)) (ep : Nat) (t : SetTable) : Prop where
  ob : ∃ o, h.get? a = some o ∧ o.ExactSet ∧ o.data = .set es ep t
  rows : es.toList = rowsOf P w L
  tab : TabOk t (L.map fun p => thash P w p.2)
  nd : (L.map (·.2)).Nodup
  tup : ∀ p ∈ L, IsT P w h p.2 p.1
  plain : True
  led : w.params.followText "set-order" = true ∨ t.led = true
  room : L.length * 5 < t.mask * 3
  few : L.length < 4001
variable {a : Addr} {L : List (Addr × List Key)} {es : Array (Int × Value)} {ep : Nat} {t : SetTable}
theorem SetTR.size (R : SetTR P w s.heap a L es ep t) : es.size = L.length := by
  have h := congrArg List.length R.rows
  unfold rowsOf at h
  rw [Array.length_toList, List.length_map] at h
  exact h
theorem SetTR.fits (R : SetTR P w s.heap a L es ep t) : t.fits es.size = true := by
  have h1 := R.tab.sz
  rw [List.length_map] at h1
  have h2 := R.size
  have h3 := R.room
  unfold SetTable.fits SetTable.fill
  rw [R.tab.dm, Bool.and_eq_true, beq_iff_eq, decide_eq_true_eq]
  show t.place.size = es.size ∧ t.place.size + 0 ≤ t.mask
  omega
theorem SetTR.entry (R : SetTR P w s.heap a L es ep t) {i : Nat} {p : Addr × List Key} (h : L[i]? = some p) : es[i]? = some (thash P w p.2, Value.ref p.1) := by
  rw [← Array.getElem?_toList, R.rows]
  unfold rowsOf
  rw [List.getElem?_map, h] <;> rfl
theorem SetTR.gw (R : SetTR P w s.heap a L es ep t) : ¬ t.gaveWay = true := by
  unfold SetTable.gaveWay
  rw [mask_odd R.tab.mok]
  decide
theorem sameMem (t : SetTable) : t.sameMemory t.moves t.mask = some true := by
  unfold SetTable.sameMemory
  rw [if_pos (beq_self_eq_true _)]
theorem search_from (R : SetTR P w s.heap a L es ep t) {x : Addr} {k : List Key} (hx : IsT P w s.heap k x) (hu : A.units < cLine) {K : Nat} (hKf : K < 10 * SetTable.turns t.mask)
    (hK : way t.mask (thash P w k) K ∉ t.place.toList) (hKb : ∀ c, c < K → way t.mask (thash P w k) c ∈ t.place.toList) {Q : SetFound → Shared → Prop}
    (hin : k ∈ L.map (·.2) → Q (.there none) s) (hout : k ∉ L.map (·.2) → Q (.free (way t.mask (thash P w k) K) false) s) :
    ∀ (f c : Nat) (stand : Option SetTable.Probe), stand.getD (t.probeStart (thash P w k)) = nth t.mask (runAt t.mask (SetTable.bits (thash P w k) % (t.mask + 1)) (SetTable.bits (thash P w k))) c → c ≤ K → K - c < f →
      (∀ (i : Nat) p, L[i]? = some p → p.2 = k → ∃ c', c ≤ c' ∧ c' < K ∧ t.place.toList[i]? = some (way t.mask (thash P w k) c')) →
      wpAny (model P w) A (setSearchFrom a (.ref x) (thash P w k) true f stand) Q E s
  | 0, c, stand, _, _, hf, _ => absurd hf (Nat.not_lt_zero _)
  | f + 1, c, stand, hst, hc, hf, hre => by
    obtain ⟨o, ho, hex, hd⟩ := R.ob
    rw [setSearchFrom_succ]
    refine wpAny_bind (wpAny_setState_of ho hd R.fits ?_)
    dsimp only
    refine wp_if_neg R.gw ?_
    try refine wpAny_bind (wpAny_pure ?_)
    have hnd : (nth t.mask (runAt t.mask (SetTable.bits (thash P w k) % (t.mask + 1)) (SetTable.bits (thash P w k))) c).dummy = none := by
      have key : ∀ (n : Nat) (p : SetTable.Probe), p.dummy = none → (nth t.mask p n).dummy = none := by
        intro n
        induction n with
        | zero => intro p h; exact h
        | succ n ih =>
          intro p h
          refine ih (adv t.mask p) ?_
          unfold adv
          split <;> exact h
      exact key c _ rfl
    have sh : ∀ q, nth t.mask (nth t.mask (runAt t.mask (SetTable.bits (thash P w k) % (t.mask + 1)) (SetTable.bits (thash P w k))) c) q = nth t.mask (runAt t.mask (SetTable.bits (thash P w k) % (t.mask + 1)) (SetTable.bits (thash P w k))) (c + q) := fun q => (nth_add t.mask c _ q).symm
    have e1 : ∀ q, (nth t.mask (nth t.mask (runAt t.mask (SetTable.bits (thash P w k) % (t.mask + 1)) (SetTable.bits (thash P w k))) c) q).j = way t.mask (thash P w k) (c + q) := fun q => congrArg SetTable.Probe.j (sh q)
    have spec := go_spec t R.tab.ris R.tab.dm (fun i => (es[i]?.map (·.1)).getD 0) (thash P w k) (10 * SetTable.turns t.mask) (K - c) _ hnd (by omega)
      (fun q hq => by rw [e1]; exact hKb (c + q) (by omega)) (by rw [e1, show c + (K - c) = K by omega]; exact hK)
    have hashAt : ∀ (i : Nat) p, L[i]? = some p → (fun i => (es[i]?.map (·.1)).getD 0) i = thash P w p.2 := fun i p hp => by
      show (es[i]?.map (·.1)).getD 0 = _
      rw [R.entry hp] <;> rfl
    rcases spec with ⟨q, i, hq, hi, hh, hno, hpr⟩ | ⟨hno, hpr⟩
    · -- a candidate
      have hpr' : t.probe (fun i => (es[i]?.map (·.1)).getD 0) (thash P w k) (stand.getD (t.probeStart (thash P w k))) = some (.candidate (way t.mask (thash P w k) (c + q)) i (nth t.mask (runAt t.mask (SetTable.bits (thash P w k) % (t.mask + 1)) (SetTable.bits (thash P w k))) (c + (q + 1)))) := by
        rw [hst, ← e1, ← sh]
        exact hpr
      rw [hpr']
      dsimp only
      rw [e1] at hi
      -- the entry
      have hil : i < L.length := by
        have h1 : i < t.place.toList.length := (List.getElem?_eq_some_iff.mp hi).1
        have h2 := R.tab.sz
        rw [List.length_map] at h2
        rw [Array.length_toList] at h1
        omega
      have hp : L[i]? = some L[i] := List.getElem?_eq_getElem hil
      generalize hpe : L[i] = p at hp
      have hmem : p ∈ L := List.mem_of_getElem? hp
      have hpt := R.tup p hmem
      have rest : wpAny (model P w) A (searchRest a (.ref x) (thash P w k) true f es t (way t.mask (thash P w k) (c + q)) i (nth t.mask (runAt t.mask (SetTable.bits (thash P w k) % (t.mask + 1)) (SetTable.bits (thash P w k))) (c + (q + 1)))) Q E s := by
        unfold searchRest
        rw [R.entry hp]
        dsimp only
        refine wpAny_bind (wpAny_holding (wpAny_eqBool_tuple hu hpt hx ?_))
        refine wpAny_bind (wpAny_setState_of ho hd R.fits ?_)
        dsimp only
        by_cases hkk : p.2 = k
        · refine wp_if_pos (by simp [hkk]) ?_
          refine wpAny_pure (hin ?_)
          exact List.mem_map.mpr ⟨p, hmem, hkk⟩
        · refine wp_if_neg (by simp [hkk]) ?_
          try refine wpAny_bind (wpAny_pure ?_)
          rw [sameMem]
          dsimp only
          have hsl : t.slot (way t.mask (thash P w k) (c + q)) = .live i := slot_live R.tab.ris hi
          simp only [if_true, hsl, R.entry hp]
          refine wpAny_bind (wpAny_isSame_ref_self (wpAny_bind (wpAny_pure ?_)))
          simp only [if_true]
          refine wp_if_neg (by simp [hkk]) ?_
          refine search_from R hx hu hKf hK hKb hin hout f (c + (q + 1)) _ rfl (by omega) (by omega) fun i0 p0 h0 hk0 => ?_
          obtain ⟨c', a1, a2, a3⟩ := hre i0 p0 h0 hk0
          refine ⟨c', ?_, a2, a3⟩
          -- it isn't passed
          rcases Nat.lt_or_ge c' (c + q) with z | z
          · exfalso
            refine hno (c' - c) i0 (by omega) (by rw [e1, show c + (c' - c) = c' by omega]; exact a3) ?_
            exact (hashAt i0 p0 h0).trans (congrArg (thash P w) hk0)
          · rcases Nat.lt_or_ge (c + q) c' with y | y
            · omega
            · exfalso
              have ec : c' = c + q := Nat.le_antisymm y z
              rw [ec] at a3
              have s0 := slot_live R.tab.ris a3
              rw [hsl] at s0
              injection s0 with s0
              rw [← s0, hp] at h0
              exact hkk ((congrArg Prod.snd (Option.some.inj h0)).trans hk0)
      by_cases hl : t.led = true
      · refine wp_if_neg (by simp [hl]) ?_
        try refine wpAny_bind (wpAny_pure ?_)
        exact rest
      · refine wp_if_pos (by simp [hl]) ?_
        refine wpAny_bind (seen_tup hx (fun y hy => ?_) ?_)
        · obtain ⟨e, he, ee⟩ := List.mem_map.mp hy
          have he1 : e ∈ es ∧ e.1 = thash P w k := by simpa using he
          have he2 : e ∈ es.toList := by simpa using he1.1
          rw [R.rows] at he2
          obtain ⟨p2, hp2, e2⟩ := List.mem_map.mp he2
          refine ⟨p2.2, p2.1, ?_, R.tup p2 hp2⟩
          rw [← ee, ← e2]
        · refine wp_if_neg (by decide) ?_
          try refine wpAny_bind (wpAny_pure ?_)
          exact rest
    · -- the empty slot
      have hpr' : t.probe (fun i => (es[i]?.map (·.1)).getD 0) (thash P w k) (stand.getD (t.probeStart (thash P w k))) = some (.empty (way t.mask (thash P w k) K) none) := by
        have e2 : way t.mask (thash P w k) K = (nth t.mask (nth t.mask (runAt t.mask (SetTable.bits (thash P w k) % (t.mask + 1)) (SetTable.bits (thash P w k))) c) (K - c)).j := by
          rw [e1, show c + (K - c) = K by omega]
        rw [hst, e2]
        exact hpr
      rw [hpr']
      dsimp only
      refine wpAny_pure (hout fun hm => ?_)
      obtain ⟨p0, h0, hk0⟩ := List.mem_map.mp hm
      obtain ⟨i0, hi0, e0⟩ := List.getElem_of_mem h0
      have h00 : L[i0]? = some p0 := by rw [List.getElem?_eq_getElem hi0, e0]
      obtain ⟨c', a1, a2, a3⟩ := hre i0 p0 h00 hk0
      refine hno (c' - c) i0 (by omega) (by rw [e1, show c + (c' - c) = c' by omega]; exact a3) ?_
      exact (hashAt i0 p0 h00).trans (congrArg (thash P w) hk0)
theorem search_at (R : SetTR P w s.heap a L es ep t) {x : Addr} {k : List Key} (hx : IsT P w s.heap k x) (hu : A.units < cLine) {Q : SetFound → Shared → Prop}
    (hin : k ∈ L.map (·.2) → Q (.there none) s)
    (hout : ∀ K, k ∉ L.map (·.2) → way t.mask (thash P w k) K ∉ t.place.toList → (∀ c, c < K → way t.mask (thash P w k) c ∈ t.place.toList) → Q (.free (way t.mask (thash P w k) K) false) s) :
    wpAny (model P w) A (setSearch a (.ref x) (thash P w k) true) Q E s := by
  have hroom := R.room
  obtain ⟨K, hKf, hK, hKb⟩ := R.tab.first (by rw [List.length_map]; omega) (thash P w k)
  have hbig : K < 100000 := by
    have : 10 * SetTable.turns t.mask ≤ 82060 := by
      unfold SetTable.turns
      rcases R.tab.mok with e | e | e | e | e | e <;> omega
    omega
  unfold setSearch
  refine search_from R hx hu hKf hK hKb hin (fun hn => hout K hn hK hKb) 100000 0 none rfl (Nat.zero_le _) (by omega) fun i p hp hk => ?_
  have hi : (L.map fun p => thash P w p.2)[i]? = some (thash P w k) := by rw [List.getElem?_map, hp, ← hk] <;> rfl
  have hil : i < t.place.toList.length := by
    have h1 : i < L.length := (List.getElem?_eq_some_iff.mp hp).1
    have h2 := R.tab.sz
    rw [List.length_map] at h2
    rw [Array.length_toList]
    omega
  have hj := List.getElem?_eq_getElem hil
  obtain ⟨c, hc, e⟩ := R.tab.before hK hi hj
  exact ⟨c, Nat.zero_le _, hc, by rw [hj, e]⟩
end
end Tz
namespace Tz
open PySem PySem.Spec PyProof.Rows L2
theorem setAddHashedIn_succ (a : Addr) (x : Value) (h : Int) (fuel : Nat) : setAddHashedIn a x h (fuel + 1) = (do
    let (es₀, _, t₀) ← setState a
    if byScan x es₀ then
      match ← setAddByScan a x h es₀ t₀ with
      | some added => return added
      | none => return ← setAddHashedIn a x h fuel
    let .free slot wasDummy ← setSearch a x h (adding := true) | return false
    let (es, _, t) ← setState a
    let (t, p) := t.put slot
    let byValue ← if t.plain then hashByValue 8 x else pure true
    let t := if byValue then t else { t with plain := false }
    storeSet a (SetTable.insertAt es p (h, x)) t
    if !wasDummy && t.tooFull then setRelay a (SetTable.grown (es.size + 1))
    return true) := by rfl
theorem setRelay_eq (a : Addr) (wanted : Nat) : setRelay a wanted = (do
    let (es, _, t) ← setState a
    if SetTable.sizeAbove wanted > sizeLine then unsupported "set:memory"
    let (es, t) ← (do
      let some (t, order) := t.relaid (es.map (·.1)) wanted | unsupported "internal:set-table-without-room"
      let es' := order.filterMap (es[·]?)
      if es'.size != es.size then unsupported "internal:set-table-lost-an-element"
      pure (es', t) : Sem (Array (Int × Value) × SetTable))
    storeSet a es t) := by rfl
section
variable {P : Program} {w : World} {A : Around} {E : Value → Shared → Prop} {s : Shared}
theorem isT_same {h h' : Heap} {k : List Key} {a b : Addr} {o : Obj} {es : Array (Int × Value)} {ep : Nat} {t : SetTable} (hb : IsT P w h k b) (ho : h.get? a = some o) (hd : o.data = .set es ep t) (hs : Heap.SameBut a h h') : IsT P w h' k b := by
  obtain ⟨o', items, n, ho', hc, hd', hi⟩ := hb
  have hne : b ≠ a := by
    rintro rfl
    obtain rfl : o' = o := Option.some.inj (ho'.symm.trans ho)
    rw [hd] at hd'
    exact nomatch hd'
  exact ⟨o', items, n, (hs.2 b hne).trans ho', hc, hd', hi⟩
theorem rows_put (L : List (Addr × List Key)) (p : Nat) (x : Addr) (k : List Key) : rowsOf P w (L.take p ++ (x, k) :: L.drop p) = (rowsOf P w L).take p ++ (thash P w k, Value.ref x) :: (rowsOf P w L).drop p := by
  unfold rowsOf
  rw [List.map_append, List.map_cons, List.map_take, List.map_drop]
theorem put_perm {α : Type} (L : List α) (p : Nat) (x : α) : (L.take p ++ x :: L.drop p).Perm (x :: L) := by
  have h : (L.take p ++ x :: L.drop p).Perm (x :: (L.take p ++ L.drop p)) := List.perm_middle
  rw [List.take_append_drop] at h
  exact h
theorem order_rows (L : List (Addr × List Key)) (es : Array (Int × Value)) (order : Array Nat) (hr : es.toList = rowsOf P w L) (hp : order.toList.Perm (List.range L.length)) :
    ∃ L2, (order.filterMap (es[·]?)).toList = rowsOf P w L2 ∧ L2.Perm L ∧ (L2.map fun p => thash P w p.2) = order.toList.map fun i => (es.map (·.1)).getD i 0 := by
  have hsz : es.size = L.length := by
    have h := congrArg List.length hr
    unfold rowsOf at h
    rw [Array.length_toList, List.length_map] at h
    exact h
  have ent : ∀ i (h : i < L.length), es[i]? = some (thash P w (L[i]).2, Value.ref (L[i]).1) := fun i h => by
    rw [← Array.getElem?_toList, hr]
    unfold rowsOf
    rw [List.getElem?_map, List.getElem?_eq_getElem h] <;> rfl
  have key : ∀ l : List Nat, (∀ i ∈ l, i < L.length) → ∃ L2 : List (Addr × List Key), l.filterMap (fun i => es[i]?) = rowsOf P w L2 ∧ L2 = l.filterMap (fun i => L[i]?) ∧ (L2.map fun p => thash P w p.2) = l.map fun i => (es.map (·.1)).getD i 0 := by
    intro l
    induction l with
    | nil => intro _; exact ⟨[], rfl, rfl, rfl⟩
    | cons i l ih =>
      intro hl
      have hi := hl i List.mem_cons_self
      obtain ⟨L2, e1, e2, e3⟩ := ih fun j hj => hl j (List.mem_cons_of_mem _ hj)
      refine ⟨L[i] :: L2, ?_, ?_, ?_⟩
      · rw [List.filterMap_cons_some (ent i hi), e1] <;> rfl
      · rw [List.filterMap_cons_some (List.getElem?_eq_getElem hi), e2]
      · rw [List.map_cons, List.map_cons, e3]
        have hi2 : i < (es.map (·.1)).size := by rw [Array.size_map, hsz]; exact hi
        have e4 : (es.map (·.1)).getD i 0 = thash P w (L[i]).2 := by
          have e5 : (es.map (·.1))[i]? = some (thash P w (L[i]).2) := by rw [Array.getElem?_map, ent i hi] <;> rfl
          simp [Array.getD_eq_getD_getElem?, e5]
        rw [e4]
  obtain ⟨L2, e1, e2, e3⟩ := key order.toList fun i hi => List.mem_range.mp (hp.mem_iff.mp hi)
  refine ⟨L2, by first | (rw [Array.toList_filterMap]; exact e1) | simpa using e1, ?_, e3⟩
  have h1 : L2.Perm ((List.range L.length).filterMap fun i => L[i]?) := by
    rw [e2]
    exact hp.filterMap _
  have h2 : (List.range L.length).filterMap (fun i => L[i]?) = L := by
    have key2 : ∀ n, n ≤ L.length → (List.range n).filterMap (fun i => L[i]?) = L.take n := by
      intro n
      induction n with
      | zero => intro _; rfl
      | succ n ih =>
        intro hn
        have hlt : n < L.length := hn
        rw [List.range_succ, List.filterMap_append, ih (Nat.le_of_lt hlt), List.take_succ, List.getElem?_eq_getElem hlt]
        rw [List.filterMap_cons_some (List.getElem?_eq_getElem hlt)] <;> rfl
    rw [key2 L.length (Nat.le_refl _), List.take_length]
  rw [h2] at h1
  exact h1
variable {a : Addr} {L : List (Addr × List Key)} {es : Array (Int × Value)} {ep : Nat} {t : SetTable}
theorem relay_at {o : Obj} (ho : s.heap.get? a = some o) (hex : o.ExactSet) (hd : o.data = .set es ep t) (hrows : es.toList = rowsOf P w L) (hsz : t.place.size = es.size) (hdm : t.dummies = #[]) (hfl : es.size ≤ t.mask)
    (nd : (L.map (·.2)).Nodup) (tup : ∀ p ∈ L, IsT P w s.heap p.2 p.1) (pl : True) (ld : w.params.followText "set-order" = true ∨ t.led = true) (few : L.length < 4001) {wanted M : Nat}
    (hw : SetTable.sizeAbove wanted - 1 = M) (hM : MaskOk M) (hw2 : SetTable.sizeAbove wanted ≤ 8192) (hn : L.length * 5 < M * 3) {Q : Unit → Shared → Prop}
    (hQ : ∀ h' L' es' ep' t', Heap.SameBut a s.heap h' → SetTR P w h' a L' es' ep' t' → L'.Perm L → Q () { s with heap := h' }) : wpAny (model P w) A (setRelay a wanted) Q E s := by
  have hsl : es.size = L.length := by
    have h := congrArg List.length hrows
    unfold rowsOf at h
    rw [Array.length_toList, List.length_map] at h
    exact h
  have hfits : t.fits es.size = true := by
    unfold SetTable.fits SetTable.fill
    rw [hdm, Bool.and_eq_true, beq_iff_eq, decide_eq_true_eq]
    show t.place.size = es.size ∧ t.place.size + 0 ≤ t.mask
    omega
  obtain ⟨t', order, e, hp, T, em, el, ep', ed⟩ := relaid_ok t (hs := es.map (·.1)) (wanted := wanted) hw hM (by rw [Array.size_map, hsl]; omega)
  rw [Array.size_map, hsl] at hp
  obtain ⟨L2, r1, r2, r3⟩ := order_rows L es order hrows hp
  rw [← r3] at T
  have hs2 : (order.filterMap (es[·]?)).size = es.size := by
    have h := congrArg List.length r1
    unfold rowsOf at h
    rw [Array.length_toList, List.length_map, r2.length_eq] at h
    rw [h, hsl]
  rw [setRelay_eq]
  refine wpAny_bind (wpAny_setState_of ho hd hfits ?_)
  dsimp only
  refine wp_if_neg (by rw [sizeLine_eq]; omega) ?_
  try refine wpAny_bind (wpAny_pure ?_)
  rw [e]
  dsimp only
  refine wpAny_bind ?_
  refine wp_if_neg (by rw [hs2]; simp) ?_
  try refine wpAny_bind (wpAny_pure ?_)
  refine wpAny_pure ?_
  dsimp only
  refine wpAny_storeSet_of ho hd ?_ (by rw [hs2, hsl, sizeLine_eq]; omega)
  have sb : Heap.SameBut a s.heap (s.heap.update a (Obj.putSet (order.filterMap (es[·]?)) t')) := Heap.SameBut.update ..
  refine hQ _ L2 (order.filterMap (es[·]?)) (ep + 1) t' sb ?_ r2
  refine ⟨⟨_, store_at ho hd, ⟨hex.1, hex.2.1, hex.2.2⟩, rfl⟩, r1, T, ?_, fun p hpm => isT_same (tup p (r2.mem_iff.mp hpm)) ho hd sb, trivial, by rw [el]; exact ld, ?_, by rw [r2.length_eq]; exact few⟩
  · exact (r2.map (·.2)).nodup_iff.mpr nd
  · rw [r2.length_eq, em]
    exact hn
theorem byv {x : Addr} {k : List Key} (hx : IsT P w s.heap k x) {b : Bool} {K : Bool → Sem Bool} {Q : Bool → Shared → Prop} (h : ∀ c, wpAny (model P w) A (K c) Q E s) : wpAny (model P w) A (if b = true then hashByValue 8 (.ref x) >>= K else pure true >>= K) Q E s := by
  cases b with
  | true => exact wp_if_pos rfl (wpAny_bind (hashBy_tup hx h))
  | false => exact wp_if_neg (by decide) (wpAny_bind (wpAny_pure (h true)))
theorem plain_off {t0 : SetTable} {c : Bool} {hs : List Int} {m n : Nat} {l : Bool} (q3 : TabOk t0 hs) (q4 : t0.mask = m) (q5 : t0.led = l) (q9 : t0.fill = n) :
    ∃ t1, (if c = true then t0 else { t0 with plain := false }) = t1 ∧ TabOk t1 hs ∧ t1.mask = m ∧ t1.led = l ∧ t1.fill = n := by
  cases c with
  | true => exact ⟨t0, rfl, q3, q4, q5, q9⟩
  | false => exact ⟨{ t0 with plain := false }, rfl, ⟨q3.ris, q3.dm, q3.sz, q3.mok, q3.bd, q3.reach⟩, q4, q5, q9⟩
theorem add_at (R : SetTR P w s.heap a L es ep t) {x : Addr} {k : List Key} (hx : IsT P w s.heap k x) (hu : A.units < cLine) (hfew : k ∉ L.map (·.2) → L.length + 1 < 4001) {Q : Bool → Shared → Prop}
    (hQ : ∀ b h' L' es' ep' t', Heap.SameBut a s.heap h' → SetTR P w h' a L' es' ep' t' → (k ∈ L.map (·.2) → L' = L) → (k ∉ L.map (·.2) → L'.Perm ((x, k) :: L)) → Q b { s with heap := h' }) :
    wpAny (model P w) A (setAddHashed a (.ref x) (thash P w k)) Q E s := by
  obtain ⟨o, ho, hex, hd⟩ := R.ob
  have hsl := R.size
  have hroom := R.room
  unfold setAddHashed
  refine wpAny_holding ?_
  rw [show (100000 : Nat) = 99999 + 1 from rfl, setAddHashedIn_succ]
  refine wpAny_bind (wpAny_setState_of ho hd R.fits ?_)
  dsimp only
  refine wp_if_neg (by simp [byScan, Value.scannable]) ?_
  try refine wpAny_bind (wpAny_pure ?_)
  refine wpAny_bind (search_at R hx hu (fun hm => ?_) fun K hm hK hb => ?_)
  · dsimp only
    exact wpAny_pure (hQ false s.heap L es ep t (Heap.SameBut.refl a s.heap) R (fun _ => rfl) fun z => absurd hm z)
  · dsimp only
    have hfew := hfew hm
    refine wpAny_bind (wpAny_setState_of ho hd R.fits ?_)
    dsimp only
    obtain ⟨q1, q2, q3, q4, q5, q6, q7, q8, q9⟩ := R.tab.put hK hb
    have hp1 : True := trivial
    generalize hpt : t.put (way t.mask (thash P w k) K) = pt at q1 q3 q4 q5 q6 q7 q8 q9 hp1 ⊢
    obtain ⟨t0, p⟩ := pt
    dsimp only at q1 q3 q4 q5 q6 q7 q8 q9 ⊢
    subst q1
    refine byv hx fun c => ?_
    obtain ⟨t1, ht1, q3, q4, q5, q9⟩ := plain_off (c := c) q3 q4 q5 q9
    rw [ht1]
    have hin : (SetTable.insertAt es (SetTable.below t.place (way t.mask (thash P w k) K)) (thash P w k, Value.ref x)).toList = rowsOf P w (L.take (SetTable.below t.place (way t.mask (thash P w k) K)) ++ (x, k) :: L.drop (SetTable.below t.place (way t.mask (thash P w k) K))) := by
      rw [SetTable.toList_insertAt, rows_put, R.rows]
    generalize hpp : SetTable.below t.place (way t.mask (thash P w k) K) = p at q2 q3 hin ⊢
    have pm := put_perm L p (x, k)
    have hlen : (L.take p ++ (x, k) :: L.drop p).length = L.length + 1 := pm.length_eq
    have hhs : (L.take p ++ (x, k) :: L.drop p).map (fun p => thash P w p.2) = (L.map fun p => thash P w p.2).take p ++ thash P w k :: (L.map fun p => thash P w p.2).drop p := by
      rw [List.map_append, List.map_cons, List.map_take, List.map_drop]
    rw [← hhs] at q3
    have nd1 : ((L.take p ++ (x, k) :: L.drop p).map (·.2)).Nodup := by
      refine (pm.map (·.2)).nodup_iff.mpr ?_
      rw [List.map_cons]
      exact List.nodup_cons.mpr ⟨hm, R.nd⟩
    have hes : (SetTable.insertAt es p (thash P w k, Value.ref x)).size = L.length + 1 := by
      have h := congrArg List.length hin
      unfold rowsOf at h
      rw [Array.length_toList, List.length_map, hlen] at h
      exact h
    generalize SetTable.insertAt es p (thash P w k, Value.ref x) = es1 at hin hes ⊢
    generalize L.take p ++ (x, k) :: L.drop p = L1 at pm hlen q3 nd1 hin
    refine wpAny_bind (wpAny_storeSet_of ho hd ?_ (by rw [hes, sizeLine_eq]; omega))
    have sb : Heap.SameBut a s.heap (s.heap.update a (Obj.putSet es1 t1)) := Heap.SameBut.update ..
    have ho1 := store_at (es' := es1) (t' := t1) ho hd
    generalize s.heap.update a (Obj.putSet es1 t1) = h1 at sb ho1 ⊢
    have tup1 : ∀ p ∈ L1, IsT P w h1 p.2 p.1 := fun p hp => by
      rcases List.mem_cons.mp (pm.mem_iff.mp hp) with e | hp
      · rw [e]; exact isT_same hx ho hd sb
      · exact isT_same (R.tup p hp) ho hd sb
    have ld1 : w.params.followText "set-order" = true ∨ t1.led = true := by rw [q5]; exact R.led
    by_cases hf : t1.tooFull = true
    · first
        | (refine wpAny_bind ?_; refine wp_if_pos (by simp [hf]) ?_)
        | (refine wp_if_pos (by simp [hf]) ?_; refine wpAny_bind ?_)
      have hfull : (L.length + 1) * 5 ≥ t1.mask * 3 := by
        have h := hf
        unfold SetTable.tooFull at h
        rw [decide_eq_true_eq, q9, List.length_map] at h
        exact h
      rw [hsl]
      have hsz1 : t1.place.size = es1.size := by
        have h := q3.sz
        rw [List.length_map, hlen] at h
        rw [h, hes]
      have cases2 : (t.mask = 7 ∧ L.length = 4) ∨ (t.mask = 31 ∧ L.length = 18) ∨ (t.mask = 127 ∧ L.length = 76) ∨ (t.mask = 511 ∧ L.length = 306) ∨ (t.mask = 2047 ∧ L.length = 1228) := by
        have hf49 := hfew
        rcases R.tab.mok with e | e | e | e | e | e
        · left; rw [q4, e] at hfull; rw [e] at hroom; exact ⟨e, by omega⟩
        · right; left; rw [q4, e] at hfull; rw [e] at hroom; exact ⟨e, by omega⟩
        · right; right; left; rw [q4, e] at hfull; rw [e] at hroom; exact ⟨e, by omega⟩
        · right; right; right; left; rw [q4, e] at hfull; rw [e] at hroom; exact ⟨e, by omega⟩
        · right; right; right; right; rw [q4, e] at hfull; rw [e] at hroom; exact ⟨e, by omega⟩
        · exfalso; rw [q4, e] at hfull; omega
      have go : ∀ M, SetTable.sizeAbove (SetTable.grown (L.length + 1)) - 1 = M → MaskOk M → SetTable.sizeAbove (SetTable.grown (L.length + 1)) ≤ 8192 → (L.length + 1) * 5 < M * 3 →
          wpAny (model P w) A (setRelay a (SetTable.grown (L.length + 1))) (fun _ s' => wpAny (model P w) A (pure true) Q E s') E { s with heap := h1 } := fun M h1' h2' h3' h4' => by
        refine relay_at (s := { s with heap := h1 }) ho1 ⟨hex.1, hex.2.1, hex.2.2⟩ rfl hin hsz1 q3.dm (by rw [hes, q4]; rcases cases2 with ⟨e, e2⟩ | ⟨e, e2⟩ | ⟨e, e2⟩ | ⟨e, e2⟩ | ⟨e, e2⟩ <;> omega) nd1 tup1 hp1 ld1 (by rw [hlen]; exact hfew) h1' h2' h3' (by rw [hlen]; exact h4') ?_
        intro h2 L2 es2 ep2 t2 sb2 R2 pm2
        refine wpAny_pure (hQ true h2 L2 es2 ep2 t2 (sb.trans sb2) R2 (fun z => absurd z hm) fun _ => pm2.trans pm)
      rcases cases2 with ⟨_, e2⟩ | ⟨_, e2⟩ | ⟨_, e2⟩ | ⟨_, e2⟩ | ⟨_, e2⟩
      · refine go 31 (by rw [e2, size_20]) (.inr (.inl rfl)) (by rw [e2, size_20]; decide) (by omega)
      · refine go 127 (by rw [e2, size_76]) (.inr (.inr (.inl rfl))) (by rw [e2, size_76]; decide) (by omega)
      · refine go 511 (by rw [e2, size_308]) (.inr (.inr (.inr (.inl rfl)))) (by rw [e2, size_308]; decide) (by omega)
      · refine go 2047 (by rw [e2, size_1228]) (.inr (.inr (.inr (.inr (.inl rfl))))) (by rw [e2, size_1228]; decide) (by omega)
      · refine go 8191 (by rw [e2, size_4916]) (.inr (.inr (.inr (.inr (.inr rfl))))) (by rw [e2, size_4916]; decide) (by omega)
    · first
        | refine wp_if_neg (by simp [hf]) ?_
        | (refine wpAny_bind ?_; refine wp_if_neg (by simp [hf]) ?_; refine wpAny_pure ?_)
      refine wpAny_pure (hQ true h1 L1 es1 (ep + 1) t1 sb ⟨⟨_, ho1, ⟨hex.1, hex.2.1, hex.2.2⟩, rfl⟩, hin, q3, nd1, tup1, hp1, ld1, ?_, by rw [hlen]; exact hfew⟩ (fun z => absurd z hm) fun _ => pm)
      have h := hf
      unfold SetTable.tooFull at h
      rw [decide_eq_true_eq, q9, List.length_map] at h
      rw [hlen]
      omega
end
end Tz
namespace Tz
open PySem PySem.Spec PyProof.Rows L2
structure Got (ks : List (Addr × List Key)) (i : Nat) (L : List (Addr × List Key)) : Prop where
  sub : ∀ p ∈ L, p ∈ ks.take i
  all : ∀ p ∈ ks.take i, p.2 ∈ L.map (·.2)
  len : L.length ≤ i
theorem Got.zero (ks : List (Addr × List Key)) : Got ks 0 [] := ⟨fun p h => (by cases h), fun p h => (by simp at h), Nat.le_refl _⟩
theorem take_next {α : Type} {l : List α} {i : Nat} {x : α} (h : l[i]? = some x) : l.take (i + 1) = l.take i ++ [x] := by
  rw [List.take_succ, h] <;> rfl
theorem Got.same {ks L : List (Addr × List Key)} {i : Nat} {x : Addr × List Key} (g : Got ks i L) (h : ks[i]? = some x) (hm : x.2 ∈ L.map (·.2)) : Got ks (i + 1) L := by
  refine ⟨fun p hp => ?_, fun p hp => ?_, Nat.le_succ_of_le g.len⟩
  · rw [take_next h]
    exact List.mem_append_left _ (g.sub p hp)
  · rw [take_next h] at hp
    rcases List.mem_append.mp hp with z | z
    · exact g.all p z
    · rw [List.mem_singleton.mp z]; exact hm
theorem Got.more {ks L L' : List (Addr × List Key)} {i : Nat} {x : Addr × List Key} (g : Got ks i L) (h : ks[i]? = some x) (pm : L'.Perm (x :: L)) : Got ks (i + 1) L' := by
  refine ⟨fun p hp => ?_, fun p hp => ?_, ?_⟩
  · rw [take_next h]
    rcases List.mem_cons.mp (pm.mem_iff.mp hp) with e | z
    · rw [e]; exact List.mem_append_right _ (List.mem_singleton.mpr rfl)
    · exact List.mem_append_left _ (g.sub p z)
  · rw [(pm.map (·.2)).mem_iff, List.map_cons]
    rw [take_next h] at hp
    rcases List.mem_append.mp hp with z | z
    · exact List.mem_cons_of_mem _ (g.all p z)
    · rw [List.mem_singleton.mp z]; exact List.mem_cons_self
  · rw [pm.length_eq, List.length_cons]
    exact Nat.succ_le_succ g.len
section
variable {P : Program} {w : World} {A : Around} {E : Value → Shared → Prop} {s : Shared}
theorem isT_keep {h h' : Heap} {k : List Key} {b : Addr} (x : IsT P w h k b) (hk : ∀ c o, h.get? c = some o → h'.get? c = some o) : IsT P w h' k b := by
  obtain ⟨o, items, n, ho, r⟩ := x
  exact ⟨o, items, n, hk b o ho, r⟩
theorem SetTR.keep {h h' : Heap} {a : Addr} {L : List (Addr × List Key)} {es : Array (Int × Value)} {ep : Nat} {t : SetTable} (R : SetTR P w h a L es ep t) (ha : ∀ o, h.get? a = some o → h'.get? a = some o) (ht : ∀ p ∈ L, IsT P w h' p.2 p.1) : SetTR P w h' a L es ep t := by
  obtain ⟨o, ho, r⟩ := R.ob
  exact ⟨⟨o, ha o ho, r⟩, R.rows, R.tab, R.nd, ht, R.plain, R.led, R.room, R.few⟩
theorem setTR_fresh {h : Heap} {a : Addr} (ho : h.get? a = some { cls := .type "set", dict := none, data := .set #[] 0 (.fresh 0 0 (!w.params.followText "set-order")) }) : SetTR P w h a [] #[] 0 (.fresh 0 0 (!w.params.followText "set-order")) where
  ob := ⟨_, ho, ⟨rfl, rfl, rfl⟩, rfl⟩
  rows := rfl
  tab := ⟨List.Pairwise.nil, rfl, rfl, .inl rfl, fun x hx => (by cases hx), fun i h j hi => (by simp at hi)⟩
  nd := List.nodup_nil
  tup := fun p hp => (by cases hp)
  plain := trivial
  led := by
    show _ ∨ (!w.params.followText "set-order") = true
    cases w.params.followText "set-order"
    · exact .inr rfl
    · exact .inl rfl
  room := by
    show 0 * 5 < 7 * 3
    decide
  few := by
    show 0 < 4001
    decide
theorem set_update_tups {I : Addr} {fp wr : List Addr} {G : Array GenState → Array GenState → Prop} {n : Nat} {Pv : Nat → Value → Prop} {St : Nat → Shared → Prop} {R : Result → Shared → Prop}
    (W : WalksS P w A.in1 I fp wr G n Pv St) (S : Addr) (hSf : S ∉ fp) (ks : List (Addr × List Key)) (hn : n = ks.length) (hfew : ∀ D : List (List Key), D.Nodup → (∀ k ∈ D, k ∈ ks.map (·.2)) → D.length ≤ 4000) (hval : ∀ i v, Pv i v → ∃ p, ks[i]? = some p ∧ v = .ref p.1)
    (h0 : Heap) (hk : ∀ p ∈ ks, IsT P w h0 p.2 p.1) (hS0 : h0.get? S = none) (hw0 : ∀ b ∈ wr, h0.get? b = none) (hu : A.in1.units < cLine) :
    ∀ (k i : Nat) (s : Shared), n - i = k → i ≤ n → St i s → (∀ b o, h0.get? b = some o → s.heap.get? b = some o) → (∃ L es ep t, SetTR P w s.heap S L es ep t ∧ Got ks i L) →
      (∀ s' L es ep t, Moved (S :: wr) G s s' → SetTR P w s'.heap S L es ep t → Got ks n L → (∀ b o, h0.get? b = some o → s'.heap.get? b = some o) → R (.ok (.ret .none)) s') →
      codeAny (model P w) A (.builtin "set.update.loop" ⟨[.ref S, .ref I], []⟩) R s := by
  have hSw : S ∉ wr := fun h => hSf (W.sub _ h)
  have hsub : ∀ b ∈ wr, b ∈ S :: wr := fun b hb => List.mem_cons_of_mem _ hb
  have keepM : ∀ {s s' : Shared}, Moved wr G s s' → (∀ b o, h0.get? b = some o → s.heap.get? b = some o) → ∀ b o, h0.get? b = some o → s'.heap.get? b = some o := fun hm hkp b o e =>
    hm.heap b o (fun hb => by rw [hw0 b hb] at e; cases e) (hkp b o e)
  intro k
  induction k with
  | zero =>
    intro i s hk' hi hst hkp ⟨L, es, ep, t, hS, g⟩ hR
    have hin : i = n := by omega
    subst hin
    refine codeAny_builtin F.entry_set_update_loop ?_
    rw [Around.under_plainId F.plain_set_update_loop _]
    show wpAny _ A.in1 (pyNext (.ref I) >>= _) _ _ s
    refine wpAny_bind (W.done s _ _ hst fun s' hm => ?_)
    show wpAny _ A.in1 (ret Value.none) _ _ s'
    have hkp' := keepM hm hkp
    have sub : ∀ p ∈ L, p ∈ ks := fun p hp => List.mem_of_mem_take (g.sub p hp)
    exact wpAny_pure (hR s' L es ep t (hm.mono hsub) (hS.keep (fun o e => hm.heap S o hSw e) fun p hp => isT_keep (hk p (sub p hp)) hkp') g hkp')
  | succ k ih =>
    intro i s hk' hi hst hkp ⟨L, es, ep, t, hS, g⟩ hR
    have hlt : i < n := by omega
    refine codeAny_builtin F.entry_set_update_loop ?_
    rw [Around.under_plainId F.plain_set_update_loop _]
    show wpAny _ A.in1 (pyNext (.ref I) >>= _) _ _ s
    refine wpAny_bind (W.item i s _ _ hlt hst fun v s' hP hst' hm => ?_)
    obtain ⟨p, hp, rfl⟩ := hval i v hP
    have hkp' := keepM hm hkp
    have sub : ∀ p ∈ L, p ∈ ks := fun p hp => List.mem_of_mem_take (g.sub p hp)
    have hS' : SetTR P w s'.heap S L es ep t := hS.keep (fun o e => hm.heap S o hSw e) fun q hq => isT_keep (hk q (sub q hq)) hkp'
    have hx : IsT P w s'.heap p.2 p.1 := isT_keep (hk p (List.mem_of_getElem? hp)) hkp'
    show wpAny _ A.in1 (holding [Value.ref p.1] (setAdd S (.ref p.1)) >>= _) _ _ s'
    refine wpAny_bind (wpAny_holding ?_)
    unfold setAdd
    refine wpAny_holding ?_
    refine wpAny_bind (wpAny_pyHash_tuple hu hx ?_)
    refine add_at (s := { s' with toks := s'.toks + (p.2.length + 1) }) hS' hx hu (fun c => by
      have := hfew (p.2 :: L.map (·.2)) (List.nodup_cons.mpr ⟨c, hS'.nd⟩) (fun k hk => by
        rcases List.mem_cons.mp hk with e | hk
        · rw [e]; exact List.mem_map.mpr ⟨p, List.mem_of_getElem? hp, rfl⟩
        · obtain ⟨q, hq, e⟩ := List.mem_map.mp hk
          exact List.mem_map.mpr ⟨q, sub q hq, e⟩)
      rw [List.length_cons, List.length_map] at this
      omega) fun b h' L' es' ep' t' hsb hS2 c1 c2 => ?_
    have g' : Got ks (i + 1) L' := by
      rcases Classical.em (p.2 ∈ L.map (·.2)) with c | c
      · rw [c1 c]; exact g.same hp c
      · exact g.more hp (c2 c)
    have hkp2 : ∀ b o, h0.get? b = some o → h'.get? b = some o := fun b o e => (hsb.2 b (fun z => by rw [z, hS0] at e; cases e)).trans (hkp' b o e)
    refine wpAny_pure ⟨plainId_quiet F.plain_set_update_loop _, ih (i + 1) _ (by omega) hlt (W.frame _ s' _ _ hst' (Nat.le_add_right _ _) fun b hb o e => ?_) hkp2 ⟨L', es', ep', t', hS2, g'⟩ fun s'' L2 es2 ep2 t2 hm'' hS'' g'' hkp'' => ?_⟩
    · rw [hsb.2 b (fun h : b = S => hSf (by rw [← h]; exact hb))]; exact e
    · refine hR s'' L2 es2 ep2 t2 (Moved.trans W.gtrans ((hm.mono hsub).then_heap (Nat.le_add_right _ _) fun b o hb e => ?_) hm'') hS'' g'' hkp''
      rw [hsb.2 b (fun h : b = S => hb (by rw [h]; exact List.mem_cons_self))]; exact e
set_option maxRecDepth 100000 in
set_option maxHeartbeats 3200000 in
theorem call_set_tups {l : Addr} {items : Array Value} (ks : List (Addr × List Key)) {Q : Value → Shared → Prop} (hh : A.handled = none) (hl : s.heap.IsList l items) (hit : items.toList = ks.map fun p => Value.ref p.1)
    (hk : ∀ p ∈ ks, IsT P w s.heap p.2 p.1) (hfew : ∀ D : List (List Key), D.Nodup → (∀ k ∈ D, k ∈ ks.map (·.2)) → D.length ≤ 4000) (hu : A.units + 3 < cLine)
    (h : ∀ (h' : Heap) (tk : Nat) L es ep t, SetTR P w h' s.heap.objs.size L es ep t → Got ks ks.length L → (∀ b o, s.heap.get? b = some o → h'.get? b = some o) → Q (.ref s.heap.objs.size) { s with heap := h', toks := tk }) :
    wpAny (model P w) A (call (.type "set") [.ref l]) Q E s := by
  have hisz : items.size = ks.length := by
    have q := congrArg List.length hit
    rw [Array.length_toList, List.length_map] at q
    exact q
  obtain ⟨c, tl, hmro⟩ := F.called_set.mro
  have hmade := F.called_set.made
  have hsub := F.called_set.sub
  refine wpAny_call (codeAny_of_tree ?_)
  show wpAny _ _ (callAny (.type "set") _) _ _ _
  refine wpAny_pure ⟨Code.quiet_builtin _ (by decide +kernel), codeAny_builtin F.entry_type_call ?_⟩
  rw [Around.under_plain (weight_type_call_type "set" [.ref l] []) rfl]
  have h1 := F.called_set.notType
  have h2 := F.called_set.canCreate
  have hct := F.typeCall_set_1 (.ref l)
  repeat (any_goals (first | assumption | wp_step))

  refine codeAny_mono (code_set_led1 (.ref l) (E := E) (Q₁ := fun obj s₁ => obj = .ref s.heap.objs.size ∧ s₁ = { s with heap := s.heap.push { cls := .type "set", dict := none, data := .set #[] 0 (.fresh 0 0 (!w.params.followText "set-order")) } }) ⟨rfl, rfl⟩) fun r s₁ hr => ?_
  cases r with
  | error e => exact hr
  | ok fl =>
    cases fl with
    | ret obj =>
      obtain ⟨rfl, rfl⟩ := hr
      have hS : (s.heap.push { cls := .type "set", dict := none, data := .set #[] 0 (.fresh 0 0 (!w.params.followText "set-order")) }).get? s.heap.objs.size = some { cls := .type "set", dict := none, data := .set #[] 0 (.fresh 0 0 (!w.params.followText "set-order")) } := Heap.get?_push_size _ rfl
      have hT : Shared.TypeIs { s with heap := s.heap.push { cls := .type "set", dict := none, data := .set #[] 0 (.fresh 0 0 (!w.params.followText "set-order")) } } (.ref s.heap.objs.size) "set" := ⟨_, hS, rfl⟩
      have hli := F.called_set.init.lookup
      have hbi := F.called_set.init.bind (.ref s.heap.objs.size)
      repeat (any_goals (first | assumption | wp_step))

      refine codeAny_mono (codeAny_call_builtin (R := wants (fun r s₂ => r = .none ∧ ∃ h' tk L es ep t, s₂ = { s with heap := h', toks := tk } ∧ SetTR P w h' s.heap.objs.size L es ep t ∧ Got ks ks.length L ∧
          (∀ b o, s.heap.get? b = some o → h'.get? b = some o)) E) F.called_set.init.plain F.entry_set_init (check_set_init_1 hT ?_)) fun r₂ s₂ hr₂ => ?_
      · obtain ⟨ol, hol, hcl, nl, hdl⟩ := hl
        obtain ⟨ocls, odict, odata, oslots⟩ := ol
        simp only at hcl hdl
        subst hcl; subst hdl
        have hol' : (s.heap.push { cls := .type "set", dict := none, data := .set #[] 0 (.fresh 0 0 (!w.params.followText "set-order")) }).get? l = some { cls := .type "list", dict := odict, data := .seq items nl, slots := oslots } := Heap.get?_push_of_some _ hol
        have hsls := F.sub_list_set
        have hslf := F.sub_list_frozenset
        have hne : (Value.type "list" == Value.type "dict") = false := by decide
        have hl1 : (s.heap.push { cls := .type "set", dict := none, data := .set #[] 0 (.fresh 0 0 (!w.params.followText "set-order")) }).IsList l items := ⟨_, hol', rfl, nl, rfl⟩
        unfold Builtin.«set.__init__» noKeywords Builtin.Frozenset.updateFrom
        generalize hPI : pyIter = PI
        wp_walk
        subst hPI

        refine wpAny_pyIter_list hl1 ?_
        refine wpAny_bind (wpAny_runValue ?_)
        have hlS : l < s.heap.objs.size := Heap.lt_size hol
        have hh3 : A.in1.in1.in1.handled = none := by simp [hh]
        have hz1 : (s.heap.push { cls := .type "set", dict := none, data := .set #[] 0 (.fresh 0 0 (!w.params.followText "set-order")) }).objs.size = s.heap.objs.size + 1 := Heap.size_push ..
        have hneI : l ≠ (s.heap.push { cls := .type "set", dict := none, data := .set #[] 0 (.fresh 0 0 (!w.params.followText "set-order")) }).objs.size := by
          rw [Heap.size_push]; exact Nat.ne_of_lt (Nat.lt_succ_of_lt hlS)
        have hSf : s.heap.objs.size ∉ [(s.heap.push { cls := .type "set", dict := none, data := .set #[] 0 (.fresh 0 0 (!w.params.followText "set-order")) }).objs.size, l] := by
          rw [Heap.size_push]; simp only [List.mem_cons, List.mem_singleton, List.not_mem_nil, or_false, not_or]
          exact ⟨Nat.ne_of_lt (Nat.lt_succ_self _), Nat.ne_of_gt hlS⟩
        have hval : ∀ (i : Nat) (v : Value), items[i]? = some v → ∃ p, ks[i]? = some p ∧ v = .ref p.1 := fun i v hv => by
          have q : items.toList[i]? = some v := by rw [Array.getElem?_toList]; exact hv
          rw [hit, List.getElem?_map] at q
          cases hq : ks[i]? with
          | none => rw [hq] at q; cases q
          | some p =>
            rw [hq] at q
            exact ⟨p, rfl, (Option.some.inj q).symm⟩
        have none_of : ∀ b, s.heap.objs.size ≤ b → s.heap.get? b = none := fun b hb => by
          cases q : s.heap.get? b with
          | none => rfl
          | some o => exact absurd (Nat.lt_of_lt_of_le (Heap.lt_size q) hb) (Nat.lt_irrefl _)
        refine set_update_tups ((Walks.list hh3 _ l hneI items).toS) s.heap.objs.size
          hSf ks hisz hfew hval s.heap hk (none_of _ (Nat.le_refl _)) (fun b hb => none_of b (by
            rw [List.mem_singleton.mp hb, Heap.size_push]
            exact Nat.le_succ _)) hu (items.size - 0) 0 _ (by omega) (Nat.zero_le _)
          ⟨⟨_, Heap.get?_push_size _ rfl, rfl, rfl⟩, (hl1.push _)⟩ (fun b o e => Heap.get?_push_of_some _ (Heap.get?_push_of_some _ e)) ?hS0 ?hR
        case hS0 =>
          have hget : ((s.heap.push { cls := .type "set", dict := none, data := .set #[] 0 (.fresh 0 0 (!w.params.followText "set-order")) }).push { cls := .type "list_iterator", data := .fields #[.ref l, .int 0 0] }).get? s.heap.objs.size
              = some { cls := .type "set", dict := none, data := .set #[] 0 (.fresh 0 0 (!w.params.followText "set-order")) } := Heap.get?_push_of_some _ hS
          exact ⟨[], #[], 0, _, setTR_fresh hget, Got.zero ks⟩
        case hR =>
          intro s' L es ep t hm hS' g' hkp
          obtain ⟨h', g2, d', tk', os'⟩ := s'
          have eg : g2 = s.gens := hm.gens
          have ed : d' = s.drawn := hm.drawn
          have eo : os' = s.os := hm.os
          subst eg; subst ed; subst eo
          show wpAny _ _ _ _ _ _
          refine wpAny_pure ?_
          show wpAny _ _ (ret Value.none) _ _ _
          rw [hisz] at g'
          exact wpAny_pure ⟨rfl, h', tk', L, es, ep, t, rfl, hS', g', hkp⟩

      · cases r₂ with
        | error e => exact hr₂
        | ok fl₂ =>
          cases fl₂ with
          | ret r =>
            obtain ⟨rfl, h', tk, L, es, ep, t, rfl, hS', g', hk'⟩ := hr₂
            repeat (any_goals (first | assumption | wp_step))
            exact h _ _ _ _ _ _ hS' g' hk'
          | _ => exact hr₂.elim
    | _ => exact hr.elim
end
end Tz
namespace Tz
open PySem PySem.Spec PyProof.Rows L2
structure SetT0 (P : Program) (w : World) (h : Heap) (a : Addr) (L : List (Addr × List Key)) : Prop where
  ex : ∃ (es : Array (Int × Value)) (ep : Nat) (t : SetTable), (∃ o, h.get? a = some o ∧ o.ExactSet ∧ o.data = .set es ep t) ∧ es.toList = rowsOf P w L ∧ TabOk t (L.map fun p => thash P w p.2) ∧ (L.map (·.2)).Nodup ∧ True ∧
    (w.params.followText "set-order" = true ∨ t.led = true) ∧ L.length * 5 < t.mask * 3 ∧ L.length < 4001
def SetTO (P : Program) (w : World) (a : Addr) (L : List (Addr × List Key)) : HO := .ext fun h => SetT0 P w h a L
theorem SetTR.t0 {P : Program} {w : World} {h : Heap} {a : Addr} {L : List (Addr × List Key)} {es : Array (Int × Value)} {ep : Nat} {t : SetTable} (R : SetTR P w h a L es ep t) : SetT0 P w h a L :=
  ⟨es, ep, t, R.ob, R.rows, R.tab, R.nd, R.plain, R.led, R.room, R.few⟩
end Tz
set_option Elab.async false
set_option linter.all false
set_option maxRecDepth 100000
set_option maxHeartbeats 4000000
namespace Dn
open PySem PySem.Spec PyProof.Rows L2 TL
variable [Tb0]
def Ty.kt : Ty → Bool
  | .p2 a b => a.k1 && b.k1
  | .p3 a b c => a.k1 && b.k1 && c.k1
  | _ => false
structure So {α : Type} (lt : α → α → Bool) : Prop where
  irr : ∀ x, lt x x = false
  tri : ∀ x y, lt x y = true ∨ x = y ∨ lt y x = true
  tr : ∀ x y z, lt x y = true → lt y z = true → lt x z = true
def lexB {α β : Type} (lt1 : α → α → Bool) (lt2 : β → β → Bool) (eq1 : α → α → Bool) (x y : α × β) : Bool := if eq1 x.1 y.1 = true then lt2 x.2 y.2 else lt1 x.1 y.1
theorem So.lex {α β : Type} {lt1 eq1 : α → α → Bool} {lt2 : β → β → Bool} (h1 : So lt1) (h2 : So lt2) (he : ∀ x y, eq1 x y = true ↔ x = y) : So (lexB lt1 lt2 eq1) where
  irr x := by unfold lexB; rw [if_pos ((he _ _).mpr rfl)]; exact h2.irr _
  tri x y := by
    unfold lexB
    by_cases c : x.1 = y.1
    · rw [if_pos ((he _ _).mpr c), if_pos ((he _ _).mpr c.symm)]
      rcases h2.tri x.2 y.2 with h | h | h
      · exact .inl h
      · exact .inr (.inl (Prod.ext c h))
      · exact .inr (.inr h)
    · rw [if_neg fun e => c ((he _ _).mp e), if_neg fun e => c ((he _ _).mp e).symm]
      rcases h1.tri x.1 y.1 with h | h | h
      · exact .inl h
      · exact absurd h c
      · exact .inr (.inr h)
  tr x y z h k := by
    unfold lexB at *
    by_cases c : x.1 = y.1
    · rw [if_pos ((he _ _).mpr c)] at h
      by_cases d : y.1 = z.1
      · rw [if_pos ((he _ _).mpr d)] at k
        rw [if_pos ((he _ _).mpr (c.trans d))]
        exact h2.tr _ _ _ h k
      · rw [if_neg fun e => d ((he _ _).mp e)] at k
        rw [if_neg fun e => d (c.symm.trans ((he _ _).mp e)), c]
        exact k
    · rw [if_neg fun e => c ((he _ _).mp e)] at h
      by_cases d : y.1 = z.1
      · rw [if_pos ((he _ _).mpr d)] at k
        rw [if_neg fun e => c (((he _ _).mp e).trans d.symm), ← d]
        exact h
      · rw [if_neg fun e => d ((he _ _).mp e)] at k
        have t := h1.tr _ _ _ h k
        rw [if_neg fun e => ?_]
        · exact t
        · have e := (he _ _).mp e
          rw [e] at h
          have t2 := h1.tr _ _ _ h k
          rw [h1.irr] at t2
          cases t2
theorem so_k1 : ∀ {A : Ty}, A.k1 = true → So (ltT A)
  | .int, _ => ⟨fun x => decide_eq_false (Int.lt_irrefl x), fun x y => by
      rcases Int.lt_trichotomy x y with h | h | h
      · exact .inl (decide_eq_true h)
      · exact .inr (.inl h)
      · exact .inr (.inr (decide_eq_true h)), fun x y z h k => decide_eq_true (Int.lt_trans (of_decide_eq_true h) (of_decide_eq_true k))⟩
  | .str, _ => ⟨fun x => decide_eq_false (List.lt_irrefl x), fun x y => by
      by_cases h : x = y
      · exact .inr (.inl h)
      · by_cases k : x < y
        · exact .inl (decide_eq_true k)
        · exact .inr (.inr (decide_eq_true (Classical.byContradiction fun c => h (List.le_antisymm (List.not_lt.mp c) (List.not_lt.mp k))))), fun x y z h k => decide_eq_true (List.lt_trans (of_decide_eq_true h) (of_decide_eq_true k))⟩
theorem eqv_k1 : ∀ {A : Ty}, A.k1 = true → ∀ x y : A.den, PyData.eqv (toPy A x) (toPy A y) = true ↔ x = y
  | .int, _, x, y => by simp [toPy, PyData.eqv]
  | .str, _, x, y => by
    simp only [toPy, PyData.eqv, beq_iff_eq]
    constructor
    · intro h
      injection h with h
      exact List.toArray_inj h
    · rintro rfl; rfl
theorem so_kt : ∀ {T : Ty}, T.kt = true → So (ltT T)
  | .p2 a b, h => by
    have h : (a.k1 && b.k1) = true := h
    simp only [Bool.and_eq_true] at h
    have e : ltT (.p2 a b) = lexB (ltT a) (ltT b) (fun x y => PyData.eqv (toPy a x) (toPy a y)) := by
      funext x y; simp only [ltT]; rfl
    rw [e]
    exact So.lex (so_k1 h.1) (so_k1 h.2) (eqv_k1 h.1)
  | .p3 a b c, h => by
    have h : (a.k1 && b.k1 && c.k1) = true := h
    simp only [Bool.and_eq_true] at h
    have e : ltT (.p3 a b c) = lexB (ltT a) (lexB (ltT b) (ltT c) (fun x y => PyData.eqv (toPy b x) (toPy b y))) (fun x y => PyData.eqv (toPy a x) (toPy a y)) := by
      funext x y; simp only [ltT]; rfl
    rw [e]
    exact So.lex (so_k1 h.1.1) (So.lex (so_k1 h.1.2) (so_k1 h.2) (eqv_k1 h.1.2)) (eqv_k1 h.1.1)
theorem So.asym {α : Type} {lt : α → α → Bool} (h : So lt) {x y : α} (k : lt x y = true) : lt y x = false := by
  cases c : lt y x with
  | false => rfl
  | true => have := h.tr _ _ _ k c; rw [h.irr] at this; cases this
section
variable {T : Ty} (h : So (ltT T))
include h
theorem le_tr (x y z : T.den) (h1 : leT T x y = true) (h2 : leT T y z = true) : leT T x z = true := by
  unfold leT at *
  rw [Bool.not_eq_true'] at *
  cases c : ltT T z x with
  | false => rfl
  | true =>
    rcases h.tri x y with k | k | k
    · rw [h.tr _ _ _ c k] at h2; cases h2
    · rw [k] at c; rw [c] at h2; cases h2
    · rw [k] at h1; cases h1
theorem le_tot (x y : T.den) : (leT T x y || leT T y x) = true := by
  unfold leT
  cases c : ltT T y x with
  | false => rfl
  | true => rw [h.asym c]; rfl
theorem le_anti (x y : T.den) (h1 : leT T x y = true) (h2 : leT T y x = true) : x = y := by
  unfold leT at *
  rw [Bool.not_eq_true'] at *
  rcases h.tri x y with k | k | k
  · rw [k] at h2; cases h2
  · exact k
  · rw [k] at h1; cases h1
theorem sortK_perm {l m : List T.den} (p : l.Perm m) : sortT T l = sortT T m :=
  PySem.W.Srt.the_of_perm (leT T) (le_tr h) (le_tot h) (le_anti h) ((List.mergeSort_perm l _).trans p) (List.pairwise_mergeSort (le_tr h) (le_tot h) l)
end
def nubD {α : Type} [DecidableEq α] : List α → List α
  | [] => []
  | x :: l => if x ∈ nubD l then nubD l else x :: nubD l
section
variable {α : Type} [DecidableEq α]
end
def ssetK (T : Ty) [DecidableEq T.den] (xs : List T.den) : List T.den := sortT T (nubD xs)
theorem kt_parts : ∀ {T : Ty}, T.kt = true → T.canLt = true ∧ T.canSort = true ∧ T.dep ≤ 2
  | .p2 .int .int, _ => by decide
  | .p2 .int .str, _ => by decide
  | .p2 .str .int, _ => by decide
  | .p2 .str .str, _ => by decide
  | .p3 .int .int .int, _ => by decide
  | .p3 .int .int .str, _ => by decide
  | .p3 .int .str .int, _ => by decide
  | .p3 .int .str .str, _ => by decide
  | .p3 .str .int .int, _ => by decide
  | .p3 .str .int .str, _ => by decide
  | .p3 .str .str .int, _ => by decide
  | .p3 .str .str .str, _ => by decide
section
variable {X : Cx}
open PySem.W in
theorem keyK_reads {pins : List (Addr × Obj)} {σ : L2.St} {H : Hp} {s : Shared} (I : Inv X pins σ H s) : ∀ {T : Ty}, T.kt = true → ∀ {q : Addr} {y : T.den}, H q = some (.tup ((keyL T y).map kV)) → ∀ {h' : Heap}, (∀ b o, s.heap.get? b = some o → h'.get? b = some o) → Reads h' (.ref q) (toPy T y) []
  | .p2 a b, hk, q, y, h, h', k => by
    have hk : (a.k1 && b.k1) = true := hk
    simp only [Bool.and_eq_true] at hk
    exact key_reads I hk.1 hk.2 h k
  | .p3 a b c, hkt, q, y, h, h', hk => by
    have hkt : (a.k1 && b.k1 && c.k1) = true := hkt
    simp only [Bool.and_eq_true] at hkt
    obtain ⟨its, rv, ⟨o, ho, hc, n, hd⟩, hz⟩ := I.tuple (tT h)
    have one : ∀ {C : Ty} {z : C.den} {u : Value}, C.k1 = true → RelV (kV (key1 C z)) u → Reads h' u (toPy C z) [] := fun {C z u} hC r => by
      cases C with
      | int => obtain ⟨t, rfl⟩ := r; exact .int _ _
      | str => obtain ⟨t, rfl⟩ := r; exact .str _ _
      | _ => cases hC
    cases rv with
    | cons r1 rv =>
      cases rv with
      | cons r2 rv =>
        cases rv with
        | cons r3 rv =>
          cases rv
          exact .tuple (as := [] ++ ([] ++ ([] ++ []))) (hk _ _ ho) hc hd (.cons (one hkt.1.1 r1) (.cons (one hkt.1.2 r2) (.cons (one hkt.2 r3) .nil)))
end
theorem perm_unmap {α β : Type} {f : α → β} : ∀ {l m : List β}, l.Perm m → ∀ {ys : List α}, m = ys.map f → ∃ bs : List α, l = bs.map f ∧ bs.Perm ys := by
  intro l m p
  induction p with
  | nil =>
    intro ys e
    cases ys with
    | nil => exact ⟨[], rfl, .nil⟩
    | cons y ys => cases e
  | cons x _ ih =>
    intro ys e
    cases ys with
    | nil => cases e
    | cons y ys =>
      rw [List.map_cons] at e
      injection e with e1 e2
      obtain ⟨bs, e3, p⟩ := ih e2
      exact ⟨y :: bs, by rw [List.map_cons, e1, e3], p.cons y⟩
  | swap x z l =>
    intro ys e
    cases ys with
    | nil => cases e
    | cons y ys =>
      cases ys with
      | nil => cases e
      | cons y2 ys =>
        simp only [List.map_cons, List.cons.injEq] at e
        exact ⟨y2 :: y :: ys, by rw [List.map_cons, List.map_cons, e.1, e.2.1, e.2.2], .swap _ _ _⟩
  | trans _ _ ih1 ih2 =>
    intro ys e
    obtain ⟨b1, e1, p1⟩ := ih2 e
    obtain ⟨b2, e2, p2⟩ := ih1 e1
    exact ⟨b2, e2, p2.trans p1⟩
end Dn
namespace Tz
open PySem PySem.Spec PyProof.Rows L2
section
variable {P : Program} {w : World} {A : Around} {E : Value → Shared → Prop} {s : Shared}
open PySem.W Dn in
theorem each_of_map {T : Ty} {L : List (Addr × List Key)} : ∀ {L1 : List (Addr × List Key)} {bs : List T.den}, L1.map (·.2) = bs.map (keyL T) → (∀ p ∈ L1, p ∈ L) → EachIs (fun v y => ∃ q, v = Value.ref q ∧ (q, keyL T y) ∈ L) (L1.map fun p => Value.ref p.1) bs
  | [], [], _, _ => .nil
  | [], b :: bs, e, _ => by cases e
  | p :: L1, [], e, _ => by cases e
  | p :: L1, b :: bs, e, h => by
    simp only [List.map_cons, List.cons.injEq] at e
    exact .cons ⟨p.1, rfl, by rw [← e.1]; exact h p (List.mem_cons_self ..)⟩ (each_of_map e.2 fun q hq => h q (List.mem_cons_of_mem _ hq))
open PySem.W Dn in
theorem sorted_setZ {T : Ty} {ys : List T.den} {a : Addr} {L : List (Addr × List Key)} {es : Array (Int × Value)} {ep : Nat} {t : SetTable} {Q : Value → Shared → Prop} (hkt : T.kt = true) (R : SetTR P w s.heap a L es ep t) (hh : A.handled = none) (hu : A.units + 8 < cLine)
    (hL : L.map (·.2) = ys.map (keyL T)) (hrd : ∀ p ∈ L, ∀ y, p.2 = keyL T y → ∀ h' : Heap, (∀ b o, s.heap.get? b = some o → h'.get? b = some o) → Reads h' (.ref p.1) (toPy T y) [])
    (hQ : ∀ (s' : Shared) (p : Addr) (out : List Value) (c : Nat), (∀ b o, s.heap.get? b = some o → s'.heap.get? b = some o) → s'.gens = s.gens → s'.os = s.os → s.heap.objs.size ≤ p →
      s'.heap.get? p = some (seqObj "list" out.toArray c) → EachIs (fun v y => ∃ q, v = Value.ref q ∧ (q, keyL T y) ∈ L) out (Dn.sortT T ys) → Q (.ref p) s') :
    wpAny (model P w) A (call (.builtin "sorted") [.ref a]) Q E s := by
  obtain ⟨o, ho, hex, hd⟩ := R.ob
  have hsz := R.size
  have hfew := R.few
  obtain ⟨hlt, hso, hdp⟩ := kt_parts hkt
  refine Calls.call_function_entry kind_sorted plain_sorted entry_sorted (args_sorted1 _) ?_
  unfold Builtin.«sorted»
  refine wpAny_bind (m := checkCount "sorted" 1 1 _) (wpAny_pure ?_)
  refine wpAny_bind (collect_set (A := A.in1) hh ⟨o, ho, hex.1, hd⟩ R.fits (by unfold scanBound; omega) R.tab.ris R.led fun s1 vs k1 hz g1 o1 pm => ?_)
  have hes : es.toList.map (·.2) = L.map fun q => Value.ref q.1 := by
    rw [R.rows]
    unfold rowsOf
    rw [List.map_map] <;> rfl
  rw [hes] at pm
  obtain ⟨L1, e1, pL⟩ := perm_unmap pm rfl
  obtain ⟨bs, e2, pb⟩ := perm_unmap (pL.map (·.2)) hL
  have hE := each_of_map (T := T) (L := L) (L1 := L1) (bs := bs) e2 fun p hp => pL.mem_iff.mp hp
  rw [← e1] at hE
  have hbl : bs.length < 4001 := by
    have := congrArg List.length hL
    rw [List.length_map, List.length_map] at this
    rw [pb.length_eq, ← this]; exact hfew
  have hvl : vs.length < 4001 := by rw [pm.length_eq, List.length_map]; exact hfew
  refine wpAny_bind (wpAny_newList ?_ (by rw [sizeLine_eq]; omega))
  have hoL : (s1.heap.push (seqObj "list" vs.toArray 0)).get? s1.heap.objs.size = some (seqObj "list" vs.toArray 0) := Heap.get?_push_size _ rfl
  refine wpAny_bind (wpAny_holding (list_sort_data (A := A.in1) (s := { s1 with heap := s1.heap.push (seqObj "list" vs.toArray 0) }) (enc := Dn.toPy T) hoL hE (hE.mono fun v x ⟨q, e, hq⟩ => ⟨[], by rw [e]; exact hrd _ hq x rfl _ fun b u e => Heap.get?_push_of_some _ (k1 b u e), by simp⟩) (AllAlike.of (Dn.alike_of T hlt)) (Dn.sortable hso bs) (by rw [sizeLine_eq]; omega)
    (fun b hb => by have := Dn.dep_le T b; show A.units + 1 + 1 + _ < _; omega) fun out hl2 ho2 => ?_))
  rw [Dn.le_data hlt] at ho2
  refine wpAny_pure ⟨_, rfl, ?_⟩
  obtain ⟨c, hc⟩ := sortedHeap_at (vs := vs) (out := out.toArray) hoL
  refine hQ _ s1.heap.objs.size out c (fun b u e => ?_) g1 o1 hz hc ?_
  · have q := k1 b u e
    have hlt := Heap.lt_size q
    show (sortedHeap (s1.heap.push (seqObj "list" vs.toArray 0)) s1.heap.objs.size vs out.toArray).get? b = some u
    rw [sortedHeap_old (Nat.ne_of_lt hlt) (by rw [size_push']; exact Nat.lt_succ_of_lt hlt)]
    exact Heap.get?_push_of_some _ q
  · rw [← sortK_perm (so_kt hkt) pb]; exact ho2
end
end Tz
namespace Dn
open PySem PySem.Spec PyProof.Rows L2 TL Tz
variable [Tb0]
section
variable {X : Cx}
def rSetZ (K : PySem.W.Frag) (P : Program) (w : World) : List V → Hp → VK → Prop := fun xs H Q => ∃ (l : Addr) (ks : List (Addr × List Key)), xs = [V.ref l] ∧ SqL K H l (ks.map fun p => V.ref p.1) ∧ (∀ p ∈ ks, H p.1 = some (.tup (p.2.map kV))) ∧
  (∀ D : List (List Key), D.Nodup → (∀ k ∈ D, k ∈ ks.map (·.2)) → D.length ≤ 4000) ∧
  ∀ a L, H a = none → (∀ p ∈ L, p ∈ ks) → (∀ p ∈ ks, p.2 ∈ L.map (·.2)) → (L.map (·.2)).Nodup → Q (.ref a) (upd H a (Tz.SetTO P w a L))
def rSortedZ (T : Ty) (P : Program) (w : World) : List V → Hp → VK → Prop := fun vs H Q => ∃ (a : Addr) (L : List (Addr × List Key)) (ys : List T.den), vs = [V.ref a] ∧ H a = some (Tz.SetTO P w a L) ∧ (∀ p ∈ L, H p.1 = some (.tup (p.2.map kV))) ∧ L.map (·.2) = ys.map (keyL T) ∧
  ∀ (qs : List Addr) (p : Addr), Paired (fun (q : Addr) (y : T.den) => (q, keyL T y) ∈ L) qs (sortT T ys) → H p = none → Q (.ref p) (upd H p (.lst (qs.map V.ref)))
open PySem.W in
theorem each_refsZ {T : Ty} {L : List (Addr × List Key)} : ∀ {out : List Value} {ys : List T.den}, EachIs (fun v y => ∃ q, v = Value.ref q ∧ (q, keyL T y) ∈ L) out ys → ∃ qs : List Addr, out = qs.map Value.ref ∧ Paired (fun (q : Addr) (y : T.den) => (q, keyL T y) ∈ L) qs ys
  | _, _, .nil => ⟨[], rfl, .nil⟩
  | _, _, .cons h t => by
    obtain ⟨q, rfl, hq⟩ := h
    obtain ⟨qs, rfl, h2⟩ := each_refsZ t
    exact ⟨q :: qs, rfl, .cons hq h2⟩
def rLenZ (P : Program) (w : World) : List V → Hp → VK → Prop := fun vs H Q => ∃ (a : Addr) (L : List (Addr × List Key)), vs = [V.ref a] ∧ H a = some (Tz.SetTO P w a L) ∧ (∀ p ∈ L, H p.1 = some (.tup (p.2.map kV))) ∧ Q (.int ((L.length : Nat) : Int)) H
end
section
variable {X : Cx} {e : Expr} {p p2 p3 pos pos2 : Pos} {Γ Γ1 : List Slot} {T : Ty} {xs : List T.den}
end
end Dn
set_option Elab.async false
set_option linter.all false
set_option maxRecDepth 100000
set_option maxHeartbeats 4000000
namespace Dn
open PySem PySem.Spec PyProof.Rows L2 TL Tz
variable [Tb0]
section
variable {X : Cx} {ρ : Type} {R : RI ρ} {e tg : Expr} {pos : Pos} {Γ Γ1 : List Slot} {t : Ty} {xs : List t.den}
end
structure Kp4 where
  p : Addr
  b : Addr
  k : List Key
  v : V
section
variable {X : Cx}
def rDictTN (K : PySem.W.Frag) : List V → Hp → VK → Prop := fun xs H Q => ∃ (a : Addr) (qs : List Kp4), xs = [.ref a] ∧ SqL K H a (qs.map fun q => V.ref q.p) ∧ (∀ q ∈ qs, H q.p = some (.tup [V.ref q.b, q.v]) ∧ H q.b = some (.tup (q.k.map kV))) ∧ (qs.map (·.k)).Nodup ∧
  ∀ p, H p = none → Q (.ref p) (upd H p (.dT (qs.map fun q => (q.k, q.v))))
end
section
variable {X : Cx} {a b e : Expr} {pos p npos : Pos} {Γ Γ1 : List Slot} {A B t : Ty} {n : Str}
end
end Dn
set_option Elab.async false
set_option linter.all false
set_option maxRecDepth 100000
set_option maxHeartbeats 1000000
namespace Rs
open PySem PySem.Spec PyProof.Rows RT Rv
theorem get_str : typeLookup (.type "str") "__getitem__" = pure (some (.builtin "str.__getitem__")) := by rw [typeLookup_type, builtinLookup_eq_fast]; kernel_rfl
def rsObj (x : Str) (t : Tok) (i : Int) : Obj := { cls := .type "reversed", data := .fields #[.str x t, rawInt i] }
def IsRs (h : Heap) (a : Addr) (x : Str) (t : Tok) (i : Int) : Prop := ∃ o, h.get? a = some o ∧ o.cls = .type "reversed" ∧ o.data = .fields #[.str x t, rawInt i]
theorem IsRs.at {h h' : Heap} {a : Addr} {x : Str} {t : Tok} {i : Int} (y : IsRs h a x t i) (e : ∀ o, h.get? a = some o → h'.get? a = some o) : IsRs h' a x t i := let ⟨o, ho, r⟩ := y; ⟨o, e _ ho, r⟩
section
variable {prog : Program} {w : World} {A : Around} {E : Value → Shared → Prop} {s : Shared}
theorem IsRs.typeIs {a : Addr} {x : Str} {t : Tok} {i : Int} (y : IsRs s.heap a x t i) : s.TypeIs (.ref a) "reversed" := let ⟨o, ho, hc, _⟩ := y; ⟨o, ho, hc⟩
theorem next_rs_item {it : Addr} {x : Str} {t : Tok} {i c : Nat} {Q : Option Value → Shared → Prop} (hit : IsRs s.heap it x t (i : Int)) (hx : x.cps[i]? = some c) (hsz : x.length ≤ sizeLine)
    (hQ : ∀ h' tk, IsRs h' it x t ((i : Int) - 1) → Heap.SameBut it s.heap h' → Q (some (.str ⟨#[c]⟩ (s.toks + 1))) { s with heap := h', toks := tk }) : wpAny (model prog w) A (pyNext (.ref it)) Q E s := by
  obtain ⟨o, ho, hc, hd⟩ := id hit
  have hi : i < x.length := (Array.getElem?_eq_some_iff.mp hx).1
  have hT : s.TypeIs (.str x t) "str" := typeIs_str s x t
  rw [sizeLine_eq] at hsz
  unfold pyNext
  refine wpAny_bind (wpAny_attempt (wpAny_callSpecial?_slot (name := Str.ofString "__next__") hit.typeIs slot_rt_next
    (wpAny_call_entry slot_rt_next hit.typeIs entry_rt_next ?_ (args_rt_next _))))
  unfold Builtin.«reversed.__next__»
  refine wpAny_bind (wpAny_of_eq (a := (Value.ref it, [])) rfl ?_)
  try dsimp only
  refine wpAny_bind (wpAny_field ho hd (x := .str x t) rfl ?_)
  try dsimp only
  refine wpAny_bind (wpAny_field ho hd (x := rawInt (i : Int)) rfl ?_)
  show wpAny _ _ (if (i : Int) < 0 then _ else _) _ _ s
  rw [if_neg (by omega)]
  try dsimp only
  refine wpAny_bind (wpAny_specialOf hT get_str ?_)
  try dsimp only
  try rw [if_neg (by decide)]
  try dsimp only
  refine wpAny_bind (wpAny_mkInt ?_)
  refine wpAny_bind (wpAny_attempt ?_)
  have fin : seqIndex? (i : Int) x.length = some i := seqIndex_of (by omega) (by omega)
  refine PyProof.Rows.getItem_str (s := { s with toks := s.toks + 1 }) (c := c) (by rw [decide_eq_false (by omega), decide_eq_false (by omega)]; rfl) (by rw [fin]; exact hx) ?_
  try dsimp only
  refine wpAny_bind (wpAny_field (s := { s with toks := s.toks + 1 + 1 }) ho hd (x := rawInt (i : Int)) rfl ?_)
  try dsimp only
  refine wpAny_bind (wpAny_setField (s := { s with toks := s.toks + 1 + 1 }) ho hd (by simp) ?_)
  first
  | refine wpAny_pure ⟨_, rfl, wpAny_pure (hQ _ _ ?_ (Heap.SameBut.update ..))⟩
  | refine wpAny_bind (wpAny_pure (wpAny_pure ⟨_, rfl, wpAny_pure (hQ _ _ ?_ (Heap.SameBut.update ..))⟩))
  exact ⟨_, Heap.get?_update_self _ ho (Obj.isFreed_of_fields (Obj.data_mapFields hd _)), (Obj.cls_mapFields ..).trans hc, by
    rw [Obj.data_mapFields hd]; simp⟩
theorem next_rs_end {it : Addr} {x : Str} {t : Tok} {Q : Option Value → Shared → Prop} (hh : A.handled = none) (hit : IsRs s.heap it x t (-1))
    (hQ : ∀ h', Heap.ExtBut it s.heap h' → Q none { s with heap := h' }) : wpAny (model prog w) A (pyNext (.ref it)) Q E s := by
  obtain ⟨o, ho, hc, hd⟩ := id hit
  unfold pyNext
  refine wpAny_bind (wpAny_attempt (wpAny_callSpecial?_slot (name := Str.ofString "__next__") hit.typeIs slot_rt_next
    (wpAny_call_entry slot_rt_next hit.typeIs entry_rt_next ?_ (args_rt_next _))))
  unfold Builtin.«reversed.__next__»
  refine wpAny_bind (wpAny_of_eq (a := (Value.ref it, [])) rfl ?_)
  try dsimp only
  refine wpAny_bind (wpAny_field ho hd (x := .str x t) rfl ?_)
  try dsimp only
  refine wpAny_bind (wpAny_field ho hd (x := rawInt (-1)) rfl ?_)
  show wpAny _ _ (if (-1 : Int) < 0 then _ else _) _ _ s
  rw [if_pos (by decide)]
  try dsimp only
  refine wpAny_bind (wpAny_rule ?_)
  refine wpAny_bind ?_
  wp_delta
  refine wpAny_bind (wpAny_setField ho hd (by simp) ?_)
  have ho2 := Heap.get?_update_self (Obj.mapFields (·.setIfInBounds 1 (rawInt (-1)))) ho (Obj.isFreed_of_fields (Obj.data_mapFields hd _))
  refine wpAny_setField (s := { s with heap := s.heap.update it (Obj.mapFields (·.setIfInBounds 1 (rawInt (-1)))) }) ho2 (Obj.data_mapFields hd _) (by simp) ?_
  try dsimp only
  first
  | show wpAny _ _ (newExc (.type "StopIteration") [] >>= _) _ _ _
  | (refine wpAny_bind ?_; show wpAny _ _ (newExc (.type "StopIteration") [] >>= _) _ _ _)
  | (refine wpAny_bind ?_; wp_delta; show wpAny _ _ (newExc (.type "StopIteration") [] >>= _) _ _ _)
  refine wpAny_bind ?_
  simp only [newExc, newTuple]
  refine wpAny_bind (wpAny_newObj_type ?_ (by size_fits))
  refine wpAny_bind (m := firstArgMember _ _) (wpAny_of_eq (a := Value.none) (by first | rfl | (simp only [firstArgMember]; rfl)) ?_)
  refine wpAny_newObj_type ?_ (by size_fits)
  simp only [raiseNew]
  refine wpAny_bind (wpAny_handled ?_)
  first | rw [show A.in1.handled = none from hh] | rw [hh]
  refine wpAny_bind (wpAny_pure (wpAny_throw ?_))
  refine wpAny_bind (wpAny_isInstance (T := "StopIteration") (b := true) ⟨_, Heap.get?_push_size _ rfl, rfl⟩ isSubtype_stop ?_)
  refine wpAny_pure (hQ _ ?_)
  refine ((?_ : Heap.ExtBut it s.heap _).push _).push _
  exact fun b ob hb e => (Heap.get?_update_other _ _ (Ne.symm hb)).trans ((Heap.get?_update_other _ _ (Ne.symm hb)).trans e)
theorem iter_rs {it : Addr} {x : Str} {t : Tok} {i : Int} {Q : Value → Shared → Prop} (hit : IsRs s.heap it x t i) (h : Q (.ref it) s) : wpAny (model prog w) A (pyIter (.ref it)) Q E s := by
  refine wpAny_pyIter_slot hit.typeIs slot_rt_iter (wpAny_call_entry slot_rt_iter hit.typeIs entry_rt_iter ?_ (args_rt_iter _))
  show wpAny _ _ (ret (.ref it)) _ _ s
  exact wpAny_pure ⟨_, rfl, "reversed", _, hit.typeIs, slot_rt_next.lookup, h⟩
end
end Rs
set_option Elab.async false
set_option linter.all false
set_option maxRecDepth 100000
set_option maxHeartbeats 2000000
namespace Rs
open PySem PySem.Spec PyProof.Rows L2
theorem letGo_str {tg : Expr} {r : Addr} {x : Str} {t : Tok} : letOwnedTupleGo tg (.ref r) (.str x t) = pure () := by
  cases tg <;> rfl
def ItR (x : Str) : It := ⟨fun i _ => i < x.length, fun i H v H' => H' = H ∧ ∃ c, x.cps[x.length - 1 - i]? = some c ∧ v = .str ⟨#[c]⟩, fun i _ => i = x.length⟩
theorem turn {P : Program} {w : World} {K : PySem.W.Frag} {tg : Expr} (it : Addr) (x : Str) (t : Tok) (hsz : x.length ≤ sizeLine) :
    Turn P w K tg (ItR x) [it] it (fun i h => i ≤ x.length ∧ IsRs h it x t ((x.length : Int) - 1 - (i : Int))) where
  mem := by simp
  obj := fun i h st c hc => by
    rw [List.mem_singleton.mp hc]
    obtain ⟨_, o, ho, hcl, hd⟩ := st
    exact ⟨o, ho, fun v q => by rw [hd] at q; cases q⟩
  keep := fun i h h' st k => ⟨st.1, st.2.at fun o e => k it (by simp) o e⟩
  item := by
    intro X hP hw hK hc i pins s σ H E I hf st hg
    subst hP hw hK
    have hi : i < x.length := hg
    have e : (x.length : Int) - 1 - (i : Int) = ((x.length - 1 - i : Nat) : Int) := by omega
    have hit := st.2
    rw [e] at hit
    have hlt : x.length - 1 - i < x.cps.size := by show x.length - 1 - i < x.length; omega
    have hx : x.cps[x.length - 1 - i]? = some (x.cps[x.length - 1 - i]'hlt) := Array.getElem?_eq_getElem hlt
    obtain ⟨f0, f1, f2, f3, f4, f5⟩ := hf it (by simp)
    refine next_rs_item hit hx hsz fun h' tk hit' hs' => ⟨_, rfl, ?_⟩
    have e2 : ((x.length - 1 - i : Nat) : Int) - 1 = (x.length : Int) - 1 - ((i + 1 : Nat) : Int) := by omega
    rw [e2] at hit'
    rw [letGo_str]
    refine wpAny_pure ⟨V.str ⟨#[x.cps[x.length - 1 - i]'hlt]⟩, H, I.turned (t' := _) (fun b o hb q => hs'.extBut b o hb q) f0 f1 f3 f4 f5, ⟨_, rfl⟩, ⟨rfl, _, hx, rfl⟩, ⟨hi, hit'⟩, fun b hb => (hf b hb).1⟩
  done := by
    intro X hP hw hK hc i pins s σ H E I hf st hg
    subst hP hw hK
    have hi : i = x.length := hg
    have e : (x.length : Int) - 1 - (i : Int) = -1 := by omega
    have hit := st.2
    rw [e] at hit
    obtain ⟨f0, f1, f2, f3, f4, f5⟩ := hf it (by simp)
    exact next_rs_end (I.ok.hd hc) hit fun h' he' => ⟨rfl, I.turned (t' := s.toks) (fun b o hb q => he' b o hb q) f0 f1 f3 f4 f5⟩
  self := fun A i s Q E st h => iter_rs st.2 h
def iRevS (te : TE) : TI := fun σ H R => te σ H fun v H1 => ∃ x : Str, v = .str x ∧ x.length ≤ sizeLine ∧ R (ItR x) H1
end Rs
namespace Es
open PySem PySem.Spec PyProof.Rows L2
def ItE (x : Str) : It :=
  ⟨fun i _ => i < x.cps.size, fun i H v H' => ∃ T c, v = .ref T ∧ H T = none ∧ H' = upd H T (.tup [.int (i : Nat), .str ⟨#[c]⟩]) ∧ x.cps[i]? = some c, fun i _ => i = x.cps.size⟩
theorem turn {P : Program} {w : World} {K : PySem.W.Frag} {elts : List Expr} {kk : Nat} {tpos : Pos} (e it : Addr) (x : Str) (t : Tok) :
    Turn P w K (.Tuple elts kk tpos) (ItE x) [e, it] e (fun i h => (∃ old, IsEnum h e it ((i : Nat) : Int) old) ∧ h.IsStrIter it (strIterType x) x t i ∧ e ≠ it) where
  mem := by simp
  obj := fun i h st b hb => by
    obtain ⟨⟨old, he⟩, ⟨o, ho, hc, hd⟩, _⟩ := st
    have e' : b = e ∨ b = it := by simpa using hb
    rcases e' with z | z
    · rw [z]; exact ⟨_, he, fun v q => nomatch q⟩
    · rw [z]; exact ⟨o, ho, fun v q => by rw [hd] at q; cases q⟩
  keep := fun i h h' st k => let ⟨⟨old, he⟩, ⟨o, ho, r⟩, hne⟩ := st; ⟨⟨old, k e (by simp) _ he⟩, ⟨o, k it (by simp) o ho, r⟩, hne⟩
  item := by
    intro X hP hw hK hc i pins s σ H E I hf st hg
    subst hP hw hK
    obtain ⟨⟨old, he⟩, hit, hne⟩ := st
    have hlt : i < x.cps.size := hg
    have hel : e < s.heap.objs.size := Heap.lt_size he
    have hil : it < s.heap.objs.size := by obtain ⟨_, q, _⟩ := hit; exact Heap.lt_size q
    refine wpAny_pyNext_enum_itemD (Draws.text (prog := X.prog) (w := X.w) (A := X.A.in1) (I.ok.hd hc) it x t) he hit hlt hne (by simp [hne]) fun x' h' tk hx' ho st' hT hsz hk => ?_
    obtain ⟨c, u, hc1, rfl⟩ := hx'
    refine ⟨_, rfl, wpAny_letOwnedTupleGo_enum (s := { s with heap := h', toks := tk + 1 }) ho fun h'' he' sb => ?_⟩
    have hT2 : h''.get? s.heap.objs.size = some { cls := .type "tuple", data := .seq #[.int i tk, .str ⟨#[c]⟩ u] } := (sb.2 _ (Nat.ne_of_gt hel)).trans hT
    have new : ObjOk X.prog X.w (upd H s.heap.objs.size (.tup [.int (i : Nat), .str ⟨#[c]⟩])) h'' s.heap.objs.size (.tup [.int (i : Nat), .str ⟨#[c]⟩]) :=
      ⟨by show 2 ≤ sizeLine; decide, [.int i tk, .str ⟨#[c]⟩ u], .cons ⟨_, rfl⟩ (.cons ⟨_, rfl⟩ .nil), ⟨_, hT2, rfl, _, rfl⟩⟩
    have I1 : Inv X pins σ (upd H s.heap.objs.size (.tup [.int (i : Nat), .str ⟨#[c]⟩])) { s with heap := h'', toks := tk + 1 } :=
      I.turnedNew (ch := [e, it]) (fun b ob hb q => (sb.2 b (fun z => hb (by simp [z]))).trans (hk b ob (fun z => hb (by simp [z])) (fun z => hb (by simp [z])) q)) hf (Nat.le_refl _) new
    refine ⟨.ref s.heap.objs.size, _, I1, rfl, ⟨_, c, rfl, I.hok.fresh (Nat.le_refl _), rfl, hc1⟩, ⟨⟨.str ⟨#[c]⟩ u, ?_⟩, ?_, hne⟩, fun b hb => ?_⟩
    · have e1 : ((i + 1 : Nat) : Int) = (i : Int) + 1 := by omega
      rw [e1]; exact he'
    · obtain ⟨o, ho2, r⟩ := st'
      exact ⟨o, (sb.2 it (Ne.symm hne)).trans ho2, r⟩
    · have hb' : b < s.heap.objs.size := by
        have e' : b = e ∨ b = it := by simpa using hb
        rcases e' with z | z
        · rw [z]; exact hel
        · rw [z]; exact hil
      rw [upd_ne (Nat.ne_of_lt hb')]
      exact (hf b hb).1
  done := by
    intro X hP hw hK hc i pins s σ H E I hf st hg
    subst hP hw hK
    obtain ⟨⟨old, he⟩, hit, hne⟩ := st
    have hi : i = x.cps.size := hg
    subst hi
    obtain ⟨f0, f1, f2, f3, f4, f5⟩ := hf it (by simp)
    exact wpAny_pyNext_enum_endD (Draws.text (prog := X.prog) (w := X.w) (A := X.A.in1) (I.ok.hd hc) it x t) he hit fun h' eb => ⟨rfl, I.turned (t' := s.toks) (fun b o hb q => eb b o hb q) f0 f1 f3 f4 f5⟩
  self := fun A i s Q E st h => let ⟨⟨_, he⟩, _⟩ := st; wpAny_pyIter_enum he h
def iEnumS (ta : TA) : TI := fun σ H R => ta σ H fun vs H1 => ∃ x : Str, vs = [.str x] ∧ R (ItE x) H1
end Es
namespace Dn
open PySem PySem.Spec PyProof.Rows L2
variable [Tb0]
section
variable {X : Cx} {tg e : Expr} {p pos tpos : Pos} {Γ Γ1 : List Slot} {x : List Nat} {g : TG} {tgs : List Nat}
end
end Dn
set_option Elab.async false
set_option linter.all false
set_option maxRecDepth 100000
set_option maxHeartbeats 1000000
namespace L2
open PySem PySem.Spec PyProof.Rows
end L2
namespace Dn
open PySem PySem.Spec PyProof.Rows L2
variable [Tb0]
section
variable {K : PySem.W.Frag} {F : Fx} {G H : Hp} {σ : L2.St} {Γ : List Slot}
end
section
variable {X : Cx} {Γ : List Slot} {t : Ty} {kvs : List (Int × t.den)} {g : TG} {tgs : List Nat} {apos cpos npos tpos : Pos} {n : Str}
end
end Dn
set_option Elab.async false
set_option linter.all false
set_option maxRecDepth 100000
set_option maxHeartbeats 2000000
namespace Kd
open PySem PySem.Spec PyProof.Rows L2
def tLitT (ta tb : TE) : TE := fun σ H Q => ∀ p, H p = none → ta σ (upd H p (.dT [])) fun v H1 => tb σ H1 fun w H2 => H2 p = some (.dT []) ∧ ∃ (q : Addr) (ks : List Key), v = .ref q ∧ H2 q = some (.tup (ks.map kV)) ∧ Q (.ref p) (upd H2 p (.dT [(ks, w)]))
section
variable {X : Cx} {a b : Expr} {ta tb : TE} {pos : Pos}
end
end Kd
namespace Dn
open PySem PySem.Spec PyProof.Rows L2 TL
variable [Tb0]
section
variable {K : PySem.W.Frag} {F : Fx} {G H : Hp} {σ : L2.St} {Γ : List Slot}
end
section
variable {X : Cx} {a b e : Expr} {p pos npos : Pos} {Γ Γ1 Γ2 : List Slot} {A B t : Ty} {n : Str} {kvs : List ((Ty.p2 A B).den × t.den)}
end
section
variable {X : Cx} {e tg : Expr} {npos : Pos} {Γ Γ1 : List Slot} {A B t : Ty} {n : Str} {kvs : List ((Ty.p2 A B).den × t.den)} {g : TG} {Bd : A.den × B.den → List Slot → List Slot} {tgs : List Nat}
end
def riOT (K : PySem.W.Frag) (k t : Ty) : RI (List (k.den × t.den)) := ofV fun F G σ H v x => ∃ p ho, v = .ref p ∧ F.T p = none ∧ OwnOk K G ho (.dtt k t x) ∧ ∃ Γ, Wd K { F with T := upd F.T p ho } G σ H Γ
section
variable {X : Cx} {Γ Γ1 Γ0 : List Slot} {e : Expr} {pos : Pos} {kt t : Ty} {as : List Arg} {vs : List V} {H : Hp} {Q : VK} {E : XK} {body : List Stmt} {N : List Str}
end
end Dn
set_option Elab.async false
set_option linter.all false
set_option maxRecDepth 100000
set_option maxHeartbeats 1000000
namespace Dn
open PySem PySem.Spec PyProof.Rows L2 TL
variable [Tb0]
structure FnX (P : Program) (w : World) (K : PySem.W.Frag) (mg : Str → Option Value) (base : Heap) (k : Nat) (f : Addr) (fd : FuncData) (ps : List Str) (sp : Sp) : Prop where
  len : ∀ vs H Q E, sp vs H Q E → vs.length = ps.length
  run : ∀ (A : Around) (outer : List Env) (s : Shared) (H : Hp) (args : Args) (us : List Value) (vs : List V) (Q : VK) (E : XK), RoomG k A → Env0 P w K mg base A outer s H → BindsTo s fd args (ps.zip us) → Vals vs us → sp vs H Q E →
    codeAny (model P w) A (.call (.ref f) args) (CR (L2.CX P w) outer P w H s Q E) s
section
variable {P : Program} {w : World} {K : PySem.W.Frag} {mg : Str → Option Value} {base : Heap}
end
section
variable {X : Cx} {f : Addr} {fd : FuncData} {ps : List Str} {sp : Sp} {k : Nat} {n : Str} {p pos : Pos} {e : Expr} {es : List Expr} {ta : TA} {E : L2.St → XK}
end
section
def PmE (K : PySem.W.Frag) (as : List Arg) (c : Value) (f : Option Str) (x : Int) : Sp := fun vs H _ E => ∃ G, (Same G H ∧ TbOk G H) ∧ Paired (ArgF K G) vs as ∧
  ∀ d G' H', Same G G' → Same G' H' → Kp H G' H' → (∀ c o, H c = some o → NT o → G c = none → G' c = none) → ExD f x G' d → E c d H'
def PmX (K : PySem.W.Frag) (c : Value) (f : Option Str) (as : List Arg) (t : Ty) (r : Int ⊕ t.den) : Sp := fun vs H Q E => match r with
  | .inl e => PmE K as c f e vs H Q E
  | .inr x => Pm0 K as (.fr t x) vs H Q E
def riX {ρ : Type} (K : PySem.W.Frag) (S : List Slot → Prop) (c : Value) (f : Option Str) (W : WX) (R : RI ρ) : RI (Int ⊕ ρ) := fun F G q x => match x with
  | .inl e => ∀ d σ H, ExD f e G d → (∃ Γ, S Γ ∧ Wd K F G σ H Γ) → W c d σ H
  | .inr x => R F G q x
end
theorem pmk_own0 {X : Cx} {C : Addr} {bmB : List Value} {B newId initId : String} {x : Str} {p pos : Pos} (F : ExcBaseFacts B newId initId bmB) (q : PySem.W.excIn X.K C bmB newId = true) (gC : X.mg x = some (.ref C))
    (kC : PySem.W.keepIn X.K (.ref C) = true) (r : Raises X (.ref C)) (hg : Gl X x) (hdb : (x == ("__debug__" : Str)) = false := by decide) :
    PMk X (.Call (.Name x p) [] [] pos) (fun _ H Q => Q (.ref C) none H) := by
  intro pins s σ H Q I h
  refine wpAny_Call_Name_kw (ld_glob I hg gC ?_ hdb)
  refine PySem.W.callWith_K0 I.kIn kC ?_
  show wpAny _ _ (call (.ref C) []) _ _ _
  obtain ⟨bm, N, nm, qn, bs, hdct, sn, sub, ab, col, dd, k0, k1, k2, k3, k5, mN, hC, hN, hni, T⟩ := exc_obj I.kIn q
  refine wpAny_call_exc_subT F T hC hN hni (fun h' e hm => ?_) (Nat.zero_le _)
  exact mk_of I hm r h (I.hok.gone hm.new)
def isX {ε α : Type} : ε ⊕ α → Bool
  | .inl _ => true
  | .inr _ => false
def exX {ε α : Type} (d : ε) : ε ⊕ α → ε
  | .inl e => e
  | .inr _ => d
def okX {ε α : Type} (d : α) : ε ⊕ α → α
  | .inl _ => d
  | .inr x => x
section
variable {X : Cx} {ρ : Type} {R : RI ρ} {S : List Slot → Prop} {c : Value} {f : Option Str} {W : WX} {Γ Γ1 Γh : List Slot} {pos pos' p np : Pos} {e : Expr} {es : List Expr} {t : Ty}
theorem ds_raise0 (tk : Takes X W) (hp : PMk X e (fun _ H Q => Q c none H)) (hS : S Γ) (hc : X.calm = true := by rfl) : DS X (riX X.K S c none W R) (.Raise (some e) none pos) Γ (.rt (.inl 0)) := fun F G σ H Wg D q =>
  wps_of (ps_raise hc tk hp) (q G (Same.refl G) none σ H rfl ⟨Γ, hS, Wg⟩)
def Out.catch (oh : Int → Out ρ) : Out (Int ⊕ ρ) → Out ρ
  | .nx Γ => .nx Γ
  | .bk Γ => .bk Γ
  | .ct Γ => .ct Γ
  | .rt (.inl e) => oh e
  | .rt (.inr x) => .rt x
  | .br b o1 o2 => .br b (o1.catch oh) (o2.catch oh)
  | .lp (.go s) k => (k s).catch oh
  | .lp (.stop s) k => (k s).catch oh
  | .lp (.ret (.inl e)) _ => oh e
  | .lp (.ret (.inr x)) _ => .rt x
theorem out_catch {Fx : Fx} {D : Ends} {G : Hp} {oh : Int → Out ρ} (h : ∀ (e : Int) (G' : Hp) d σ H, Same G G' → ExD f e G' d → Wd X.K Fx G' σ H Γh → OutOk X.K R Fx D G' (oh e) → W c d σ H) :
    ∀ {o : Out (Int ⊕ ρ)}, OutOk X.K R Fx D G (o.catch oh) → OutOk X.K (riX X.K (fun Γ => Γ = Γh) c f W R) Fx D G o
  | .nx Γ, q => q
  | .bk Γ, q => q
  | .ct Γ, q => q
  | .rt (.inl e), q => fun G' s d σ H hd ⟨Γ, hΓ, Wg⟩ => by subst hΓ; exact h e G' d σ H s hd Wg (outOk_mono s q)
  | .rt (.inr x), q => q
  | .br b o1 o2, q => ⟨fun hb => out_catch h (q.1 hb), fun hb => out_catch h (q.2 hb)⟩
  | .lp (.go s) k, q => out_catch (o := k s) h q
  | .lp (.stop s) k, q => out_catch (o := k s) h q
  | .lp (.ret (.inl e)) _, q => fun G' s d σ H hd ⟨Γ, hΓ, Wg⟩ => by subst hΓ; exact h e G' d σ H s hd Wg (outOk_mono s q)
  | .lp (.ret (.inr x)) _, q => q
end
section
variable {X : Cx} {c : Value} {f : Option Str} {N : List Str} {body : List Stmt} {as : List Arg} {vs : List V} {H : Hp} {Q : VK} {E : XK} {Γ0 : List Slot}
end
end Dn
set_option Elab.async false
set_option linter.all false
set_option maxRecDepth 100000
set_option maxHeartbeats 1000000
namespace Dn
open PySem PySem.Spec PyProof.Rows L2 TL
variable [Tb0]
section
variable {K : PySem.W.Frag} {F : Fx} {G H : Hp} {σ : L2.St} {Γ : List Slot}
end
section
variable {X : Cx} {ρ : Type} {R : RI ρ} {st : Stmt} {ss : List Stmt} {Γ : List Slot} {out : Out ρ}
end
def kget {α β : Type} [DecidableEq α] (kvs : List (α × β)) (k : α) : Option β := (kvs.find? fun p => decide (p.1 = k)).map (·.2)
section
variable {K : PySem.W.Frag} {G : Hp} {A B t : Ty}
end
def isD (o : Own) : Slot → Bool
  | .ow _ _ => true
  | .fd _ => true
  | _ => false
section
variable {K : PySem.W.Frag} {F : Fx} {G H : Hp} {σ : L2.St} {Γ : List Slot} {A B t : Ty}
def HasT (A B t : Ty) (kvs : List ((Ty.p2 A B).den × t.den)) (s : Option Slot) : Prop := (∃ pin, s = some (.ow pin (.dtt (.p2 A B) t kvs))) ∨ s = some (.fd (.dtt (.p2 A B) t kvs))
end
section
variable {X : Cx} {a b e : Expr} {pos npos apos cpos : Pos} {n : Str} {Γ Γ1 Γ2 : List Slot} {A B t : Ty} {kvs : List ((Ty.p2 A B).den × t.den)}
end
section
variable {X : Cx} {a b : Expr} {pos npos apos : Pos} {n : Str} {Γ Γ1 Γ2 : List Slot} {t : Ty} {kvs : List (Int × t.den)}
end
end Dn
set_option Elab.async false
set_option linter.all false
set_option maxRecDepth 100000
set_option maxHeartbeats 1000000
namespace Dn
open PySem PySem.Spec PyProof.Rows L2 TL
variable [Tb0]
def Lp.NoRet {S ρ : Type} (r : Lp S ρ) : Prop := match r with
  | .ret _ => False
  | _ => True
def Lp.brk {S ρ α : Type} [Inhabited α] (r : Lp S ρ) (k : S → α) : α := match r with
  | .go s => k s
  | .stop s => k s
  | .ret _ => default
section
variable {K : PySem.W.Frag} {S ρ : Type} {R : RI ρ} {Γs : S → List Slot}
end
end Dn
set_option Elab.async false
set_option linter.all false
set_option maxRecDepth 100000
set_option maxHeartbeats 1000000
namespace Dn
open PySem PySem.Spec PyProof.Rows L2 TL
variable [Tb0]
section
variable {X : Cx} {pins : List (Addr × Obj)} {σ : L2.St} {H : Hp} {s : Shared}
theorem exg_ok {P : Program} {w : World} {h : Heap} {a : Addr} {c : Value} {d : Option Addr} {oe : Obj} {vs : Array Value} (e : h.get? a = some oe) (z : Zc c d oe) (hd : oe.data = .fields vs) : ObjOk P w H h a (ExG c d a) :=
  ⟨⟨oe, vs, e, z, hd⟩, ⟨_, e⟩, fun h1 h2 y k => by
    obtain ⟨oe', vs', q1, q2, q3⟩ := y
    exact ⟨oe', vs', k _ q1, q2, q3⟩⟩
theorem exg_at {P : Program} {w : World} {h : Heap} {a : Addr} {c : Value} {d : Option Addr} (hok : HOk P w H h) (he : H a = some (ExG c d a)) : ∃ (oe : Obj) (vs : Array Value), h.get? a = some oe ∧ Zc c d oe ∧ oe.data = .fields vs := by
  have x : ObjOk P w H h a (.ext fun h => ∃ (oe : Obj) (vs : Array Value), h.get? a = some oe ∧ Zc c d oe ∧ oe.data = .fields vs) := hok a _ he
  exact x.1
theorem inv_track {a : Addr} {oe : Obj} {vs : Array Value} {o : HO} (I : Inv X pins σ H s) (na : H a = none) (nL : a ≠ X.env.locals) (h0 : X.s_0.heap.get? a = none) (ha : s.heap.get? a = some oe) (hd : oe.data = .fields vs) (np : ∀ p ∈ X.pn ++ pins, p.1 ≠ a)
    (ok : ObjOk X.prog X.w (upd H a o) s.heap a o) : Inv X pins σ (upd H a o) s := by
  refine ⟨I.ok, I.os, I.bare, ⟨I.base.keep, I.base.slot, fun b ob e n hx => ?_, I.base.there, fun b xs e => ?_, fun b ob u e => ?_, fun b ps e => ?_⟩, I.loc, I.cell, by rw [upd_ne (Ne.symm nL)]; exact I.free, fun x c e => ?_, fun p hp => ?_, fun b ob e => ?_, I.len⟩
  · have hb : b ≠ a := fun z => by rw [z, h0] at e; cases e
    rw [upd_ne hb]; exact I.base.free b ob e n hx
  · have := I.base.tups b xs e
    rw [upd_ne (ne_of_none this na)]; exact this
  · have := I.base.frzs b ob u e
    rw [upd_ne (ne_of_none this na)]; exact this
  · obtain ⟨more, this⟩ := I.base.tbls b ps e
    exact ⟨more, by rw [upd_ne (ne_of_none this na)]; exact this⟩
  · have hc : c ≠ a := fun z => by
      obtain ⟨v, o', q1, q2⟩ := I.cell x c e
      rw [z, ha] at q1; cases q1
      rw [hd] at q2; cases q2
    rw [upd_ne hc]; exact I.freeC x c e
  · obtain ⟨e, n, ne, nf, d⟩ := I.pin p hp
    exact ⟨e, by rw [upd_ne (np p hp)]; exact n, ne, nf, d⟩
  · by_cases hb : b = a
    · subst hb
      rw [upd_same] at e; cases e
      exact ok
    · rw [upd_ne hb] at e
      exact (I.hok b ob e).stay (fun c u _ q => q) (fun c hc => by rw [upd_ne (ne_of_none hc na)]; exact hc) fun c xs hc => by rw [upd_ne (ne_of_none hc na)]; exact hc
end
def wAsG (K : PySem.W.Frag) (c : Value) (i : Nat) (ts : Addr → Value → Option Addr → TS) (Wout : WX) (D : Ends) : WX := fun cls d σ H =>
  ∃ b, PySem.W.exmOne K cls c = some b ∧ (b = true → ∀ a, H a = none → ts a cls d { nx := fun σ' H' => D.nx (σ'.set i none) H', rt := D.rt, bk := fun σ' H' => D.bk (σ'.set i none) H', ct := fun σ' H' => D.ct (σ'.set i none) H' } (σ.set i (some (.ref a))) (upd H a (ExG cls d a))) ∧
    (b = false → Wout cls d σ H)
section
variable {X : Cx} {x n : Str} {c : Value} {i : Nat} {body suite : List Stmt} {b₀ : Stmt} {np pos pos' : Pos} {tb : WX → TS} {ts : Addr → Value → Option Addr → TS} {Wout : WX}
theorem ps_try_g (hs : X.stack = X.env :: X.outer) (hf : X.env.frame = some X.env.locals) (hex : X.ex = []) (hN : X.N.Nodup) (hi : X.N[i]? = some n) (hln : X.env.kindOf n = some .local) (hc : Names X x c) (tk : Takes X Wout)
    (hb : ∀ (W : WX) (pn : List (Addr × Obj)) (xe : Value → Shared → Prop), Takes (X.tr pn xe) W → PassesOwn (model X.prog X.w) X.A X.env xe → PSs (X.tr pn xe) body (tb W))
    (hsu : ∀ (a : Addr) (cls : Value) (d : Option Addr) (pn : List (Addr × Obj)), PSs (X.suite a pn) (b₀ :: suite) (ts a cls d)) :
    PS X (.Try body [.ExceptHandler (some (.Name x np)) (some n) (b₀ :: suite) pos'] [] [] pos) (fun D σ H => tb (wAsG X.K c i ts Wout D) D σ H) := by
  refine ⟨fun pins s σ H D I h => ?_⟩
  have ok := I.ok
  have hfr : X.A.frames = some (X.env :: X.outer) := by rw [ok.frames, hs]
  have hloc : Loc X.env.scope n := .inl hln
  refine wpAny_Try_except ?_
  refine wpAny_mono ((hb (wAsG X.K c i ts Wout D) (X.pn ++ pins) (fun e s₁ => wpAny (model X.prog X.w) X.A (noteFrame e X.env) (fun _ s₂ => wpAny (model X.prog X.w) X.A (setFlight e none) (fun _ s₃ =>
    wpAny (model X.prog X.w) X.A (handleBy e X.env [.ExceptHandler (some (.Name x np)) (some n) (b₀ :: suite) pos']) (SP X pins D) X.xe s₃) X.xe s₂) X.xe s₁) (fun u s' xx => ?_) PassesOwn.looking).run [] s σ H D (I.toTry _) h) (fun f s1 hsp => ?_) (fun e s1 he => he)
  · -- the catch
    obtain ⟨a, B, sI, pins', σ', H', cls, d, rfl, J', nb, up, sky, na, os, ag, b, hb1, hyes, hno⟩ := xx
    have J : Inv X pins σ' H' sI := J'.ofTry ok
    have sky' : Sky B (X.env :: X.outer) a (Zc cls d) X.env.locals s'.heap := by rw [← hs]; exact sky
    show wpAny (model X.prog X.w) X.A (noteFrame (.ref a) X.env) _ _ _
    refine Sky.land Zc.steady hfr hf sky' fun h3 fl3 up3 => ?_
    have J3 : Inv X pins σ' H' { s' with heap := h3 } := J.landed nb fl3.1 (up.trans up3) os ag
    obtain ⟨oe3, vs3, he3, hz3, hd3⟩ := fl3.there
    have notFr : ∀ {h : Heap} {o : Obj} {vs : Array Value}, h.FunFrames B (X.env :: X.outer) → h.get? a = some o → o.data = .fields vs → a ∉ frs (X.env :: X.outer) := fun {h o vs} ff e dd hm => by
      obtain ⟨_, o', e', hnf⟩ := ff.mem hm
      rw [e] at e'; cases e'
      exact hnf _ dd
    have nfr := notFr fl3.2.2.1 he3 hd3
    have nL : a ≠ X.env.locals := fun z => nfr (List.mem_filterMap.mpr ⟨X.env, List.mem_cons_self, by rw [hf, z]⟩)
    have nF : a ∉ X.fs := fun hm => by
      obtain ⟨e, he, q⟩ := List.mem_filterMap.mp hm
      exact nfr (List.mem_filterMap.mpr ⟨e, List.mem_cons_of_mem _ he, q⟩)
    have fresh : ∀ o, sI.heap.get? a ≠ some o := fun o e => by
      have := nb a o e (by rw [hs]; exact nfr)
      rw [fl3.2.1] at this; cases this
    have h0 : X.s_0.heap.get? a = none := by
      cases e : X.s_0.heap.get? a with
      | none => rfl
      | some o =>
        obtain ⟨o', e'⟩ := J.base.there a o e (by rw [hex]; simp)
        exact absurd e' (fresh o')
    have npin : ∀ p ∈ X.pn ++ pins, p.1 ≠ a := fun p hp z => by
      obtain ⟨e, _⟩ := J.pin p hp
      rw [z] at e
      exact fresh _ e
    have S3 := J3.suite he3 hd3 na nL nF
    refine wpAny_handleBy_cons (codeAny_handlers_test ?_) (by intro q; cases q)
    have LT : PySem.W.Looks (model X.prog X.w) h3 (typeOf (.ref a)) cls := fun A Q E s k q => wpAny_typeOf_ref (k _ _ he3) (by rw [hz3.1]; exact q)
    have LM := PySem.W.exm_one (M := model X.prog X.w) (J3.kIn) LT hb1
    have test : ∀ {Q : Value → Shared → Prop} {E : Value → Shared → Prop}, Q c { s' with heap := h3 } → wpAny (model X.prog X.w) (X.A.mark (some (.ref a))) (eval (.Name x np) X.env) Q E { s' with heap := h3 } := fun {Q E} q => by
      obtain ⟨hg, hdbg, hm | ⟨hm, hv, hnn⟩⟩ := hc
      · exact ld_glob (X := X.suite a ((a, oe3) :: (X.pn ++ pins))) S3 hg hm q hdbg
      · exact ld_blt (X := X.suite a ((a, oe3) :: (X.pn ++ pins))) S3 hg hm hv q hnn hdbg
    refine test (LM.here ?_)
    cases b with
    | true =>
      refine codeAny_handlers_suite_as ?_
      refine HandSPX.lands_againZ fl3 fun h4 fl4 up4 => ?_
      have J4 : Inv X pins σ' H' { s' with heap := h4 } := J.landed nb fl4.1 ((up.trans up3).trans up4) os ag
      obtain ⟨oe4, vs4, he4, hz4, hd4⟩ := fl4.there
      have T4 : Inv X pins σ' (upd H' a (ExG cls d a)) { s' with heap := h4 } := inv_track J4 na nL h0 he4 hd4 npin (exg_ok he4 hz4 hd4)
      have S4 : Inv (X.suite a (X.pn ++ pins)) [] σ' (upd H' a (ExG cls d a)) { s' with heap := h4 } :=
        ⟨T4.ok.suite _ _, T4.os, T4.bare, T4.base, T4.loc, T4.cell, T4.free, T4.freeC, fun p hp => T4.pin p (by have hp : p ∈ (X.pn ++ pins) ++ [] := hp; rwa [List.append_nil] at hp), T4.hok, T4.len⟩
      refine store_ok (X := X.suite a (X.pn ++ pins)) (v := .ref a) S4 hN hi hloc rfl (fun s5 S5 => ?_) (.inr hln)
      have un : ∀ {σ6 : L2.St} {H6 : Hp} {s6 : Shared}, Inv (X.suite a (X.pn ++ pins)) [] σ6 H6 s6 → Inv X pins σ6 H6 s6 := fun {σ6 H6 s6} S =>
        ⟨ok, S.os, S.bare, S.base, S.loc, S.cell, S.free, S.freeC, fun p hp => S.pin p (by show p ∈ (X.pn ++ pins) ++ []; rwa [List.append_nil]), S.hok, S.len⟩
      refine wpAny_mono ((hsu a cls d (X.pn ++ pins)).run [] s5 _ _ _ S5 (hyes rfl a na)) (fun f s6 hsp => ?_) (fun _ _ z => False.elim z)
      have end_ : ∀ {σ6 : L2.St} {H6 : Hp} {Q : Shared → Prop}, Inv (X.suite a (X.pn ++ pins)) [] σ6 H6 s6 → (∀ s7, Inv X pins (σ6.set i none) H6 s7 → Q s7) →
          wpAny (model X.prog X.w) X.A (do bindName X.env n .none; unbindBehindTheSuite X.env n pos') (fun _ s7 => Q s7) X.xe s6 := fun {σ6 H6 Q} S6 hq => gone_ok (un S6) hN hi hln hq
      cases f with
      | next =>
        obtain ⟨σ6, H6, S6, q6⟩ := hsp
        exact end_ S6 fun s7 J7 => ⟨_, _, J7, q6⟩
      | brk =>
        obtain ⟨σ6, H6, S6, q6⟩ := hsp
        exact end_ S6 fun s7 J7 => ⟨_, _, J7, q6⟩
      | cont =>
        obtain ⟨σ6, H6, S6, q6⟩ := hsp
        exact end_ S6 fun s7 J7 => ⟨_, _, J7, q6⟩
      | ret u =>
        obtain ⟨v6, σ6, H6, S6, r6, q6⟩ := hsp
        exact end_ S6 fun s7 J7 => ⟨_, _, _, J7, r6, q6⟩
    | false =>
      show wpAny _ X.A (handleBy (.ref a) X.env []) _ _ _
      refine wpAny_handleBy_nil ?_
      obtain ⟨k1, k2, k3, oe, vs, T, oT, ts', he, hz, hd, h1, hr⟩ := id fl3
      unfold PySem.passOn
      refine wpAny_bind (wpAny_field he hd h1 ?_)
      rw [if_neg (show ¬ ((Value.ref T == Value.none) = true) from by simp)]
      have fin : wpAny (model X.prog X.w) X.A (setFlight (.ref a) X.env.frame) (fun _ s4 => wpAny (model X.prog X.w) X.A (throw (.ref a) : Sem Flow) (SP X pins D) X.xe s4) X.xe { s' with heap := h3 } := by
        rw [hf]
        refine HandSPX.setFlight_upZ fl3 fun h4 hh4 up4 => wpAny_throw (tk _ _ ?_)
        exact ⟨a, B, sI, pins, σ', H', cls, d, rfl, J, nb, (up.trans up3).trans up4, .inr (.inr (by rw [hs]; exact hh4)), na, os, ag, hno rfl⟩
      first
        | exact wpAny_bind (wpAny_pure (wpAny_bind fin))
        | exact wpAny_bind fin
  · cases f with
    | next =>
      obtain ⟨σ', H', J', q⟩ := hsp
      exact wpAny_execs_nil ⟨σ', H', J'.ofTry ok, q⟩
    | brk =>
      obtain ⟨σ', H', J', q⟩ := hsp
      exact ⟨σ', H', J'.ofTry ok, q⟩
    | cont =>
      obtain ⟨σ', H', J', q⟩ := hsp
      exact ⟨σ', H', J'.ofTry ok, q⟩
    | ret u =>
      obtain ⟨v, σ', H', J', r, q⟩ := hsp
      exact ⟨v, σ', H', J'.ofTry ok, r, q⟩
end
section
variable {K : PySem.W.Frag} {F : Fx} {G H : Hp} {σ : L2.St} {Γ : List Slot}
theorem Wd.setG {i : Nat} {u : Option V} {s : Slot} (W : Wd K F G σ H Γ) (ow : s.isOw = false) (hns : s.isNs = false) (ok : SlotOk K F G H (some u) s) : Wd K F G (σ.set i u) H (Γ.set i s) where
  len := by rw [List.length_set, List.length_set]; exact W.len
  gh := W.gh
  th := W.th
  tb := W.tb
  tg := W.tg
  sl := fun j z e => by
    by_cases hj : i = j
    · subst hj
      have il : i < Γ.length := by have := (List.getElem?_eq_some_iff.mp e).1; rwa [List.length_set] at this
      rw [List.getElem?_set_self il] at e; cases e
      rw [List.getElem?_set_self (by rw [W.len]; exact il)]; exact ok
    · rw [List.getElem?_set_ne hj] at e ⊢; exact W.sl j z e
  dj := fun j k z z' p ne e1 o1 e2 o2 h1 h2 => by
    have b1 := set_ow ow e1 o1
    have b2 := set_ow ow e2 o2
    rw [List.getElem?_set_ne b1.1] at h1
    rw [List.getElem?_set_ne b2.1] at h2
    exact W.dj j k z z' p ne b1.2 o1 b2.2 o2 h1 h2
  ns := W.ns.go (fun j t x e => ⟨(set_ns hns e).2, List.getElem?_set_ne (set_ns hns e).1⟩) (Same.refl G) fun a o q1 q2 q3 q4 => ⟨q1, q2, q3, fun j z e o => by
    have := set_ow ow e o
    rw [List.getElem?_set_ne this.1]
    exact q4 j z this.2 o⟩
end
section
variable {ρ : Type}
def Out.unset (i : Nat) : Out ρ → Out ρ
  | .nx Γ => .nx (Γ.set i .un)
  | .bk Γ => .bk (Γ.set i .un)
  | .ct Γ => .ct (Γ.set i .un)
  | .rt x => .rt x
  | .br b o1 o2 => .br b (o1.unset i) (o2.unset i)
  | .lp r k => .lp r fun s => (k s).unset i
abbrev unD (i : Nat) (D : Ends) : Ends := { nx := fun σ' H' => D.nx (σ'.set i none) H', rt := D.rt, bk := fun σ' H' => D.bk (σ'.set i none) H', ct := fun σ' H' => D.ct (σ'.set i none) H' }
theorem out_unset {K : PySem.W.Frag} {R : RI ρ} {F : Fx} {D : Ends} {i : Nat} : ∀ {o : Out ρ} {G : Hp}, OutOk K R F D G (o.unset i) → OutOk K R F (unD i D) G o
  | .nx Γ, G, h => fun σ G' H s W => h (σ.set i none) G' H s (W.setG rfl rfl trivial)
  | .bk Γ, G, h => fun σ G' H s W => h (σ.set i none) G' H s (W.setG rfl rfl trivial)
  | .ct Γ, G, h => fun σ G' H s W => h (σ.set i none) G' H s (W.setG rfl rfl trivial)
  | .rt x, G, h => h
  | .br b o1 o2, G, h => ⟨fun hb => out_unset (h.1 hb), fun hb => out_unset (h.2 hb)⟩
  | .lp (.go s) k, G, h => out_unset (o := k s) h
  | .lp (.stop s) k, G, h => out_unset (o := k s) h
  | .lp (.ret x) k, G, h => h
end
section
variable {X : Cx} {ρ : Type} {R : RI ρ} {c : Value} {f : Option Str} {Γ Γh : List Slot} {pos pos' np : Pos}
theorem ds_tryAs (i : Nat) (Γh : List Slot) {x n : Str} {cc : Value} {body suite : List Stmt} {b₀ : Stmt} {o : Out (Int ⊕ ρ)} {oh : Int → Out ρ} (hc : Names X x cc) (hm : PySem.W.exmOne X.K c cc = some true) (hN : X.N.Nodup)
    (hb : ∀ (W : WX) (pn : List (Addr × Obj)) (xe : Value → Shared → Prop), Takes (X.tr pn xe) W → PassesOwn (model X.prog X.w) X.A X.env xe → DSs (X.tr pn xe) (riX X.K (fun Γ => Γ = Γh) c f W R) body Γ o)
    (hsu : ∀ (a : Addr) (pn : List (Addr × Obj)) (e : Int), DSs (X.suite a pn) R (b₀ :: suite) (Γh.set i (.fd (.xc c f e))) (oh e)) (hi : X.N[i]? = some n := by rfl) (hln : X.env.kindOf n = some .local := by rfl)
    (hs : X.stack = X.env :: X.outer := by rfl) (hf : X.env.frame = some X.env.locals := by rfl) (hex : X.ex = [] := by rfl) :
    DS X R (.Try body [.ExceptHandler (some (.Name x np)) (some n) (b₀ :: suite) pos'] [] [] pos) Γ (o.catch fun e => (oh e).unset i) := fun F G σ H Wg D q =>
  wps_of (ps_try_g (Wout := fun _ _ _ _ => False) (tb := fun W D σ H => ∀ pn xe, Takes (X.tr pn xe) W → PassesOwn (model X.prog X.w) X.A X.env xe → WPSs (X.tr pn xe) body D σ H)
      (ts := fun a cls d D σ H => ∀ (pn : List (Addr × Obj)), WPSs (X.suite a pn) (b₀ :: suite) D σ H) hs hf hex hN hi hln hc takes0
      (fun W pn xe tk pa => ⟨fun pins s σ H D I h => wpss_run (h pn xe tk pa) pins s I⟩) (fun a cls d pn => ⟨fun pins s σ H D I h => wpss_run (h pn) pins s I⟩))
    (fun pn xe tk pa => hb _ pn xe tk pa F G σ H Wg D (out_catch (X := X) (Γh := Γh) (fun e G' d σ' H' s hd Wh qe => ⟨true, hm, fun _ a na pn => by
      have ga := Wh.gn na
      have sm : Same G' (upd G' a (ExG c d a)) := same_upd ga
      exact hsu a pn e F _ _ _ ((Wh.newG (ho := ExG c d a) na).setG (i := i) (u := some (.ref a)) (s := .fd (.xc c f e)) rfl rfl ⟨.ref a, rfl, a, d, rfl, upd_same, exD_mono sm hd⟩) (unD i D) (out_unset (outOk_mono sm qe)), fun z => by cases z⟩) q))
end
structure ExcK (K : PySem.W.Frag) (C : Addr) : Prop where
  cl : (PySem.W.clsIn K C).isSome = true
  hg : PySem.W.findIn K (.ref C) "__getattribute__" = some (some (.builtin "BaseException.__getattribute__"))
  hk : PySem.W.findIn K (.ref C) "__getattr__" = some none
  hs : PySem.W.subIn K (.ref C) (.type "BaseException") = some true
  ha : PySem.W.findIn K (.ref C) "__class__" = some (some (.builtin "object.__class__"))
  hn : PySem.W.specialIn K (.builtin "object.__class__") "__get__" = some (some (.builtin "getset_descriptor.__get__"))
  ht : PySem.W.takesIn K (.builtin "object.__class__") = some true
  hm : PySem.W.mroIn K C (.type "object") = some true
def IsV (v : V) (cv : Value) : Prop := ∀ u, RelV v u → u = cv
theorem isv_ref {C : Addr} : IsV (.ref C) (.ref C) := fun u h => h
theorem isv_ty {T : String} : IsV (.ty T) (.type T) := fun u h => h
section
variable {X : Cx} {pins : List (Addr × Obj)} {σ : L2.St} {H : Hp} {s : Shared} {a C : Addr} {d : Option Addr}
def ExDc (H : Hp) (d : Option Addr) : Prop := d = none ∨ ∃ dd fs, d = some dd ∧ H dd = some (.xd fs)
theorem exDc_of {f : Option Str} {x : Int} {G H : Hp} (sg : Same G H) (h : ExD f x G d) : ExDc H d := by
  cases f with
  | none => exact .inl h
  | some n => obtain ⟨dd, h1, h2⟩ := h; exact .inr ⟨dd, _, h1, sg _ _ h2⟩
theorem exg_inst (I : Inv X pins σ H s) (he : H a = some (ExG (.ref C) d a)) (hd : ExDc H d) : ∃ oe od, PySem.W.InstAt s.heap a oe C od := by
  obtain ⟨oe, vs, h1, h2, h3⟩ := exg_at I.hok he
  rcases hd with rfl | ⟨dd, fs, rfl, hx⟩
  · refine ⟨oe, none, ?_⟩
    obtain ⟨oc, od, oda, osl⟩ := oe
    obtain ⟨z1, z2⟩ := h2
    dsimp only at z1 z2 h3
    subst z1 z2 h3
    exact ⟨h1, rfl, rfl, trivial⟩
  · have hx : ObjOk X.prog X.w H s.heap dd (.xd fs) := I.hok dd _ hx
    obtain ⟨mA, hns, hr⟩ := hx
    obtain ⟨od, ho, hl⟩ := lookIn_ns hns
    exact ⟨oe, some od, h1, h2.1, by unfold PySem.W.notCls; rw [h3] <;> rfl, by rw [h2.2]; exact ho⟩
def rIsX (K : PySem.W.Frag) (C a : Addr) : List V → Hp → VK → Prop := fun xs H Q => ∃ (c : V) (b : Bool) (d : Option Addr), xs = [.ref a, c] ∧ H a = some (ExG (.ref C) d a) ∧ ExDc H d ∧
  ((∃ cv, IsV c cv ∧ PySem.W.kitOne K (.ref C) cv = some b) ∨ ∃ tp vs cvs, c = .ref tp ∧ SqT K H tp vs ∧ Paired IsV vs cvs ∧ PySem.W.kitAny K (.ref C) cvs = some b) ∧ Q (.bl b) H
theorem call_isX (E : ExcK X.K C) : CallR X (.builtin "isinstance") (rIsX X.K C a) := by
  intro pins s σ H xs us Q I r h
  obtain ⟨c, b, d, rfl, he, hd, hk, q⟩ := h
  obtain ⟨oe, od, J⟩ := exg_inst I he hd
  cases r with
  | cons rx rr =>
    cases rr with
    | cons rt rr =>
      cases rr
      cases rx
      rcases hk with ⟨cv, hcv, e⟩ | ⟨tp, vs, cvs, rfl, hT, hp, e⟩
      · have ec := hcv _ rt
        subst ec
        exact PySem.W.kia_one (PySem.W.kitx_exc E.cl E.hg E.hk E.hs E.ha E.hn E.ht E.hm) I.kIn J e (fun z => nomatch z) fun tk => ⟨.bl b, H, I.kept (t' := tk) fun _ _ z => z, rfl, q⟩
      · cases rt
        obtain ⟨its, r, ⟨⟨cls, dd, data, sl⟩, ho, hc, n, hdt⟩, hz⟩ := I.tuple hT
        simp only at hc hdt
        subst hc hdt
        have ei : its = cvs := by
          clear q e hz ho hT
          induction hp generalizing its with
          | nil => cases r; rfl
          | cons h _ ih =>
            cases r with
            | cons r1 r2 => rw [h _ r1, ih _ r2]
        subst ei
        exact PySem.W.kia_tup (PySem.W.kitx_exc E.cl E.hg E.hk E.hs E.ha E.hn E.ht E.hm) I.kIn J ho e (fun z => nomatch z) fun tk => ⟨.bl b, H, I.kept (t' := tk) fun _ _ z => z, rfl, q⟩
end
section
variable {X : Cx} {p np p2 pos pos2 apos : Pos} {n v : Str} {Γ : List Slot} {f : Option Str} {x : Int} {C : Addr}
def Cs0 (X : Cx) (es : List Expr) (vs : List V) : Prop := ∀ (σ : L2.St) (H : Hp) (Q : List V → Hp → Prop), Q vs H → WPA X es σ H Q
end
section
variable {X : Cx} {ρ : Type} {R : RI ρ} {Γ : List Slot} {n m : Str} {np pos pos' : Pos} {o : Own}
theorem ds_setFd (i j : Nat) (hN : X.N.Nodup) (h : Γ[j]? = some (.fd o) := by rfl) (hj : X.N[j]? = some m := by rfl) (hv : Vis X.env.scope m := by first | exact Or.inl rfl | exact Or.inr (Or.inl rfl) | exact Or.inr (Or.inr rfl))
    (hd : (m == ("__debug__" : Str)) = false := by decide) (hcd : (m == ("__classdict__" : Str)) = false := by decide) (hi : X.N[i]? = some n := by rfl) (hx : Loc X.env.scope n := by first | exact Or.inl rfl | exact Or.inr rfl) (hs : swapsWith (.Name m np) (some (.Name n pos')) pos.line X.env = pure false := by rfl) (hf : X.fn n = true ∨ X.env.scope.names.lookup n = some .local := by first | exact .inl rfl | exact .inr rfl) :
    DS X R (.Assign [.Name n pos'] (.Name m np) pos) Γ (.nx (Γ.set i (.fd o))) := fun F G σ H W D q => by
  obtain ⟨v, h1, h2⟩ := W.sl j _ h
  exact wps_of (ps_set hN hi hx (pe_var hj hv hd hcd) hs hf) ⟨v, h1, q _ G H (Same.refl G) (W.setG rfl rfl ⟨v, rfl, h2⟩)⟩
end
end Dn
set_option Elab.async false
set_option linter.all false
set_option maxRecDepth 100000
set_option maxHeartbeats 1000000
namespace Dn
open PySem PySem.Spec PyProof.Rows L2 TL
variable [Tb0]
section
variable {P : Program} {w : World} {K : PySem.W.Frag} {mg : Str → Option Value} {base : Heap}
theorem fun_okR {x qual : Str} {st : Stmt} {f : Addr} {fd : FuncData} {N ps : List Str} {k : Nat} {sp : Sp} (F : Fun K x qual st f fd) (S : FnScope N ps (defScope st)) (len : ∀ vs H Q E, sp vs H Q E → vs.length = ps.length)
    (hbody : ∀ (cdv : Value) (A : Around) (outer : List Env) (s : Shared) (H : Hp) (vs : List V) (Q : VK) (E : XK), Room k (A.deeper (envOfC qual (defScope st) s.heap.objs.size f cdv)) →
      sp vs H Q E →
      ∃ t, PSs (cxOf (L2.CX P w) P w K mg base N qual (defScope st) f cdv A outer s H E) (defBody st) t ∧ t { nx := fun _ H' => Q .non H', rt := Q } (start N vs) H) : FnOk P w K mg base (L2.CX P w) (k + 1) f fd ps sp := by
  obtain ⟨_, _, _, _, _, _, cdv, _, _, rfl, lk, hcd⟩ := F.ex
  refine ⟨len, fun A outer s H args us vs Q E room e0 binds rel hsp => ?_⟩
  have vl := len _ _ _ _ hsp
  have keep : ∀ b o, base.get? b = some o → s.heap.get? b = some o := fun b o e => (e0.bs b o e).1
  have nolim : s.heap.NoLimit := e0.mod.nolimit.keeps keep
  have inK := e0.mod.kin.keeps keep
  refine codeAny_call_function room.depth (inK _ _ lk) rfl S.co S.gen rfl (PySem.W.codeRec_of inK hcd) (binds _ _ _ _ ?_)
  refine wpAny_newFunctionEnv_cells S.kind (fun p hp => ?_) fun env he s1 made => ?_
  · cases S.par p.1 (List.of_mem_zip (show (p.1, p.2) ∈ ps.zip us from hp)).1 with
    | inl q => exact .inl q
    | inr q => exact .inr ⟨q, PySem.W.cellsFrom_some _ _ _ (.inl q)⟩
  subst he
  refine ⟨nolim.keeps made.toInCall.keep, codeAny_func ?_⟩
  obtain ⟨t, ht, q⟩ := hbody cdv A outer s H vs Q E (room.deeper _) hsp
  refine wpAny_mono (ht.run [] s1 (start N vs) H _ (inv_start S room.hd e0 vl rel made) q) (fun fl s' out => ?_) fun _ _ out => out
  cases fl with
  | ret u => obtain ⟨v, _, H', J, rv, q'⟩ := out; exact ⟨v, H', J.os, J.bare, J.base, J.hok, rv, q'⟩
  | next => obtain ⟨_, H', J, q'⟩ := out; exact ⟨V.non, H', J.os, J.bare, J.base, J.hok, rfl, q'⟩
  | brk => obtain ⟨_, _, _, q'⟩ := out; exact False.elim q'
  | cont => obtain ⟨_, _, _, q'⟩ := out; exact False.elim q'
end
structure BaseK (K : PySem.W.Frag) (CW : Addr) : Prop where
  ga : PySem.W.specialIn K (.ref CW) "__getattribute__" = some (some (.builtin "type.__getattribute__"))
  rd : PySem.W.readsIn K CW (.type "type") = true
  ini : PySem.W.findCls K (.ref CW) (.type "type") "__init__" = some (.val (.builtin "ValueError.__init__"))
section
variable {X : Cx} {e : Expr} {es : List Expr} {ta : TA} {p1 p2 pos : Pos} {CW : Addr} {bn : Str}
theorem pe_weinit {pl : Sem Bool} (hg : Gl X bn) (hm : X.mg bn = some (.ref CW)) (B : BaseK X.K CW) (ha : PA X (e :: es) ta) (hdb : (bn == ("__debug__" : Str)) = false)
    (hc : eval (.Call (.Attribute (.Name bn p1) "__init__" p2) (e :: es) [] pos) X.env = (do
      let ov ← eval (.Name bn p1) X.env
      standAt p2.atName
      let (f, first) ← holding [ov] (getMethod ov "__init__" pl)
      callWith pos f first (backTo pos (starEach (e :: es) X.env)) (backToKw pos (keywordEach [] X.env))))
    (he : starEach (e :: es) X.env = (false, eval e X.env) :: starEach es X.env) (hpl : (backTo pos (starEach es X.env)).any (·.1) = false) :
    PE X (.Call (.Attribute (.Name bn p1) "__init__" p2) (e :: es) [] pos) (tVeI X.K ta) := by
  refine ⟨fun pins s σ H Q I h => ?_⟩
  refine PySem.W.methodCall_KW (ld_glob I hg hm ?_ hdb) hc
  refine PySem.W.method_cls I.kIn B.ga (PySem.W.cls_value I.kIn B.rd B.ini rfl ?_)
  show wpAny _ _ (callWith pos (Value.builtin "ValueError.__init__") [] (backTo pos (starEach (e :: es) X.env)) []) _ _ _
  refine PyProof.Rows.callWith_method1 (thn (ha.run pos pins _ σ H _ (I.tok _) h) fun us s1 ⟨vs, H1, I1, r1, a, C, ws, ev, hl, T, ea, q⟩ => ?_) he hpl
  subst ev
  cases r1 with
  | @cons _ u0 _ ur ra rw' =>
    obtain rfl : u0 = Value.ref a := ra
    have hlen : ur.length ≤ sizeLine := by
      rw [← Paired.length rw', sizeLine_eq]
      omega
    exact oinit_ok T I1 ea hlen fun s' J => ⟨.non, H1, J, rfl, q⟩
end
def sp_xinit (K : PySem.W.Frag) (C : Addr) (fn : Str) : Sp := fun vs H Q _ => ∃ (a : Addr) (i : Int), vs = [.ref a, .int i] ∧ OexC K C ∧ PySem.W.findIn K (.ref C) fn = some none ∧ H a = some (exo a C none) ∧
  ∀ dx, H dx = none → dx ≠ a → Q .non (upd (upd H dx (exd dx [(fn, .int i)])) a (exo a C (some dx)))
theorem w_xinit {P : Program} {w : World} {K : PySem.W.Frag} {mg : Str → Option Value} {base : Heap} {qual : Str} {st : Stmt} {f : Addr} {fd : FuncData} {C CW : Addr} {an fn bn : Str} {p1 p2 p3 p4 p5 p6 p7 p8 p9 p10 : Pos} (F : Fun K "__init__" qual st f fd) (S : FnScope ["self", an] ["self", an] (defScope st))
    (hB : BaseK K CW) (gW : mg bn = some (.ref CW)) (hdb : (bn == ("__debug__" : Str)) = false)
    (hbody : defBody st = [.Expr (.Call (.Attribute (.Name bn p1) "__init__" p2) [.Name "self" p3, .Name an p4] [] p5) p6, .Assign [.Attribute (.Name "self" p7) fn p8] (.Name an p9) p10])
    (hgl : ∀ (X : Cx), X.env.scope = defScope st → Gl X bn) (hloc : ∀ (X : Cx), X.env.scope = defScope st → Vis X.env.scope "self" ∧ Vis X.env.scope an)
    (hda : (an == ("__debug__" : Str)) = false) (hca : (an == ("__classdict__" : Str)) = false)
    (hcall : ∀ env : Env, env.scope = defScope st → ∃ pl : Sem Bool, eval (.Call (.Attribute (.Name bn p1) "__init__" p2) [.Name "self" p3, .Name an p4] [] p5) env = (do
      let ov ← eval (.Name bn p1) env
      standAt p2.atName
      let (f, first) ← holding [ov] (getMethod ov "__init__" pl)
      callWith p5 f first (backTo p5 (starEach [.Name "self" p3, .Name an p4] env)) (backToKw p5 (keywordEach [] env)))) :
    FnOk P w K mg base (L2.CX P w) 1 f fd ["self", an] (sp_xinit K C fn) :=
  fun_okR F S (fun vs H Q E h => by obtain ⟨a, i, rfl, _⟩ := h; rfl) fun cdv A outer s H vs Q E hr h => by
    obtain ⟨a, i, rfl, T, hno, ea, q⟩ := h
    generalize hX : cxOf (L2.CX P w) P w K mg base [("self" : Str), an] qual (defScope st) f cdv A outer s H E = X
    have eK : X.K = K := by rw [← hX]; rfl
    have em : X.mg = mg := by rw [← hX]; rfl
    have esc : X.env.scope = defScope st := by rw [← hX]; rfl
    have eN : X.N = ([("self" : Str), an] : List Str) := by rw [← hX]; rfl
    obtain ⟨pl, hpl⟩ := hcall X.env esc
    obtain ⟨v1, v2⟩ := hloc X esc
    have pself : ∀ {p : Pos}, PE X (.Name "self" p) (tVar 0) := fun {p} => pe_var (by rw [eN]; rfl) v1 (by decide) (by decide)
    have pan : ∀ {p : Pos}, PE X (.Name an p) (tVar 1) := fun {p} => pe_var (by rw [eN]; rfl) v2 hda hca
    rw [hbody]
    refine ⟨_, pss_cons (ps_expr (pe_weinit (pl := pl) (hgl X esc) (by rw [em]; exact gW) (by rw [eK]; exact hB) (pa_cons pself (pa_cons pan pa_nil rfl) rfl) hdb hpl rfl rfl) rfl) (pss_one (ps_ost pself pan rfl)), ?_⟩
    refine ⟨.ref a, rfl, .int i, rfl, a, C, [.int i], rfl, by show 1 ≤ 1000; omega, by rw [eK]; exact T, ea, ?_⟩
    refine ⟨.int i, rfl, .ref a, rfl, a, C, rfl, by rw [eK]; exact T, by rw [eK]; exact hno, .inl ⟨ea, fun dx h1 h2 => q dx h1 h2⟩⟩
structure XcF (P : Program) (w : World) (K : PySem.W.Frag) (mg : Str → Option Value) (base : Heap) (cn : Str) (C : Addr) (fn : Str) : Prop where
  T : OexC K C
  hm : mg cn = some (.ref C)
  hno : PySem.W.findIn K (.ref C) fn = some none
  ex : ∃ (fI : Addr) (fd : FuncData) (an : Str), PySem.W.findIn K (.ref C) "__init__" = some (some (.ref fI)) ∧ PySem.W.typeIn K (.ref fI) = some (.type "function") ∧ FnOk P w K mg base (L2.CX P w) 1 fI fd ["self", an] (sp_xinit K C fn) ∧ Binds K fd ["self", an] []
section
variable {X : Cx} {ρ : Type} {R : RI ρ} {S : List Slot → Prop} {W : WX} {Γ Γ1 : List Slot} {pos pos' p : Pos} {e : Expr} {cn fn : Str} {C : Addr} {i : Int}
theorem ds_raise1 {k : Nat} (Xf : XcF X.prog X.w X.K X.mg X.base cn C fn) (tk : Takes X W) (hr : RoomG (k + 2) X.A) (he : DE X e Γ .int i Γ1) (hS : S Γ1) (hg : Gl X cn := by rfl) (hdb : (cn == ("__debug__" : Str)) = false := by decide) (hc : X.calm = true := by rfl)
    (hs : starEach [e] X.env = (false, eval e X.env) :: starEach [] X.env := by rfl) (hpl : (backTo pos' (starEach [] X.env)).any (·.1) = false := by rfl) :
    DS X (riX X.K S (.ref C) (some fn) W R) (.Raise (some (.Call (.Name cn p) [e] [] pos')) none pos) Γ (.rt (.inl i)) := fun F G σ H Wg D q => by
  obtain ⟨fI, fd, an, iC, tI, F1, hb⟩ := Xf.ex
  refine wps_of (ps_raise hc tk (pmk_oex (ds := []) (dvs := []) Xf.T iC tI F1 (hr.r.mono (by omega)) hb .nil (fun pins σ H s e s' _ h => by obtain ⟨_, _, _, _, _, _, _, _, _, _, _, _, h⟩ := h; exact h.elim) hg Xf.hm (pa_cons pe_wp pa_nil hs) hdb hs hpl)) ?_
  refine he F G σ H Wg _ fun v G1 H1 s1 W1 r1 => ?_
  have r1 : v = .int i := r1
  subst r1
  refine ⟨by show 1 ≤ 1000; omega, fun a ha => ⟨a, i, rfl, Xf.T, Xf.hno, upd_same, fun dx hdx ne => ?_⟩⟩
  have hd1 : H1 dx = none := by rwa [upd_ne ne] at hdx
  have ne' : a ≠ dx := fun z => ne z.symm
  refine ⟨rfl, dx, [(fn, .int i)], upd_same, by rw [upd_ne ne, upd_same], hd1, ?_⟩
  have eh : upd (L2.del (upd (upd (upd H1 a (exo a C none)) dx (exd dx [(fn, .int i)])) a (exo a C (some dx))) a) dx (.xd [(fn, .int i)]) = upd H1 dx (.xd [(fn, .int i)]) := by
    funext b
    by_cases h1 : b = dx
    · rw [h1, upd_same, upd_same]
    · rw [upd_ne h1, upd_ne h1]
      by_cases h2 : b = a
      · rw [h2, L2.del_same, ha]
      · rw [L2.del_ne h2, upd_ne h2, upd_ne h1, upd_ne h2]
  rw [eh]
  have sm : Same G1 (upd G1 dx (.xd [(fn, .int i)])) := same_upd (W1.gn hd1)
  exact q _ (s1.trans sm) (some dx) σ _ ⟨dx, rfl, upd_same⟩ ⟨Γ1, hS, W1.newG hd1⟩
end
end Dn
set_option Elab.async false
set_option linter.all false
set_option maxRecDepth 100000
set_option maxHeartbeats 1000000
namespace Dn
open PySem PySem.Spec PyProof.Rows L2 TL
variable [Tb0]
structure ClX (P : Program) (w : World) (K : PySem.W.Frag) (mg : Str → Option Value) (base : Heap) (k : Nat) (m : Str) (ps : List Str) (sp : Sp) : Prop where
  ex : ∃ (f : Addr) (fd : FuncData), FnX P w K mg base k f fd ps sp ∧ mg m = some (.ref f) ∧ PySem.W.keepIn K (.ref f) = true ∧ Binds K fd ps []
section
variable {X : Cx} {ρ : Type} {R : RI ρ} {S : List Slot → Prop} {c : Value} {f : Option Str} {W : WX} {Γ Γ1 : List Slot} {pos pos' p np : Pos} {e : Expr} {es : List Expr} {t u : Ty}
end
section
variable {X : Cx} {Γ Γ1 Γ2 : List Slot} {a b e : Expr} {pos apos : Pos} {A B : Ty}
def smL {α β : Type} (d : α) : α ⊕ β → α
  | .inl x => x
  | .inr _ => d
def smR {α β : Type} (d : β) : α ⊕ β → β
  | .inr x => x
  | .inl _ => d
def upperS (x : List Nat) : List Nat := (Txt.upper ⟨x.toArray⟩).cps.toList
end
structure ExK (K : PySem.W.Frag) (mg : Str → Option Value) (CW CE : Addr) (en : Str) : Prop where
  gW : mg "WalkError" = some (.ref CW)
  gE : mg en = some (.ref CE)
  em : PySem.W.exmOne K (.ref CE) (.ref CW) = some true
  ee : PySem.W.exmOne K (.ref CE) (.ref CE) = some true
  ek : ExcK K CE
end Dn
set_option Elab.async false
set_option linter.all false
set_option maxRecDepth 100000
set_option maxHeartbeats 1000000
namespace Dn
open PySem PySem.Spec PyProof.Rows L2 TL
variable [Tb0]
section
variable {K : PySem.W.Frag} {F : Fx} {G G' H H' : Hp} {σ : L2.St} {Γ : List Slot} {t : Ty} {i : Nat} {xss : List (List t.den)}
def hold (T H : Hp) (l : List Addr) : Hp := fun c => if c ∈ l then H c else T c
theorem Wd.nsIn {p : Addr} {as : List Addr} {vss : List (List V)} (W : Wd K { F with T := hold F.T H (p :: as) } G' σ H' (Γ.set i .un)) (sg : Same G G') (h : Γ[i]? = some (.ns t xss)) (one : ∀ (j : Nat) (s : Slot), Γ[j]? = some s → s.isNs = true → j = i)
    (h1 : σ[i]? = some (some (.ref p))) (h2 : H p = some (.lst (as.map V.ref))) (h3 : (p :: as).Nodup) (h4 : Paired (fun a vs => H a = some (.lst vs)) as vss) (h5 : Paired (fun vs xs => RepL K t G vs xs) vss xss)
    (h6 : ∀ a ∈ p :: as, G a = none ∧ F.T a = none ∧ ∀ (j : Nat) (s : Slot), Γ[j]? = some s → s.isOw = true → σ[j]? ≠ some (some (.ref a))) :
    H' p = some (.lst (as.map V.ref)) ∧ Paired (fun a vs => H' a = some (.lst vs)) as vss ∧ Paired (fun vs xs => RepL K t G' vs xs) vss xss ∧
    (∀ a ∈ p :: as, G' a = none ∧ F.T a = none ∧ ∀ (j : Nat) (s : Slot), Γ[j]? = some s → s.isOw = true → σ[j]? ≠ some (some (.ref a))) ∧ Wd K F G' σ H' Γ := by
  have tin : ∀ c, c ∈ p :: as → hold F.T H (p :: as) c = H c := fun c m => if_pos m
  have tout : ∀ c, c ∉ p :: as → hold F.T H (p :: as) c = F.T c := fun c m => if_neg m
  have cell : ∀ a ∈ p :: as, ∃ vs, H a = some (.lst vs) := fun a m => by
    rcases List.mem_cons.mp m with rfl | m
    · exact ⟨_, h2⟩
    · exact pairs_cell h4 m
  have stay : ∀ a ∈ p :: as, ∀ vs, H a = some (.lst vs) → H' a = some (.lst vs) := fun a m vs e => (W.th a _ (by show hold F.T H (p :: as) a = _; rw [tin a m]; exact e)).1 NT.lst.2
  have k2 := stay p (List.mem_cons_self ..) _ h2
  have k4 : Paired (fun a vs => H' a = some (.lst vs)) as vss := pairs_mem h4 fun a vs m q => stay a (List.mem_cons_of_mem _ m) vs q
  have k5 : Paired (fun vs xs => RepL K t G' vs xs) vss xss := pm h5 fun vs xs q => repL_mono sg q
  have k6 : ∀ a ∈ p :: as, G' a = none ∧ F.T a = none ∧ ∀ (j : Nat) (s : Slot), Γ[j]? = some s → s.isOw = true → σ[j]? ≠ some (some (.ref a)) := fun a m => by
    obtain ⟨vs, e⟩ := cell a m
    exact ⟨W.tg a (.lst vs) (by show hold F.T H (p :: as) a = _; rw [tin a m]; exact e) NT.lst, (h6 a m).2⟩
  have fT : ∀ c o, F.T c = some o → c ∉ p :: as := fun c o e m => by rw [(h6 c m).2.1] at e; cases e
  have gne : ∀ {j : Nat}, i ≠ j → (Γ.set i .un)[j]? = Γ[j]? := fun {j} ne => List.getElem?_set_ne ne
  refine ⟨k2, k4, k5, k6, by rw [W.len, List.length_set], W.gh, fun c o e => W.th c o (by show hold F.T H (p :: as) c = _; rw [tout c (fT c o e)]; exact e), fun c o e hn => W.tg c o (by show hold F.T H (p :: as) c = _; rw [tout c (fT c o e)]; exact e) hn, fun j s e => ?_, fun j k s s' q ne e1 o1 e2 o2 q1 q2 => ?_, fun j t' x' e => ?_, W.tb⟩
  · by_cases hj : i = j
    · subst hj
      rw [h] at e; cases e; trivial
    · have q := W.sl j s ((gne hj).trans e)
      cases s with
      | un => exact q
      | fr t x => exact q
      | fd o => exact q
      | mb t x => exact q
      | ns t x => exact q
      | ow pin o =>
        obtain ⟨b, ho, g1, g2, g3, g4, g5, g6⟩ := q
        have g3 : hold F.T H (p :: as) b = none := g3
        have nb : b ∉ p :: as := fun m => by
          obtain ⟨vs, e⟩ := cell b m
          rw [tin b m, e] at g3; cases g3
        exact ⟨b, ho, g1, g2, by rw [tout b nb] at g3; exact g3, g4, g5, g6⟩
  · have n1 : i ≠ j := fun z => by subst z; rw [h] at e1; cases e1; cases o1
    have n2 : i ≠ k := fun z => by subst z; rw [h] at e2; cases e2; cases o2
    exact W.dj j k s s' q ne ((gne n1).trans e1) o1 ((gne n2).trans e2) o2 q1 q2
  · have hj := one j _ e rfl
    subst hj
    rw [h] at e; cases e
    exact ⟨one, p, as, vss, h1, k2, h3, k4, k5, k6⟩
end
section
variable {X : Cx} {ρ : Type} {R : RI ρ} {Γ Γ1 : List Slot} {e ie : Expr} {pos npos apos cpos ipos : Pos} {t : Ty} {xss : List (List t.den)} {n : Str}
def smS {α : Type} : α ⊕ List Nat → List Nat → Bool
  | .inl _, _ => false
  | .inr x, y => decide (x = y)
end
end Dn
set_option Elab.async false
set_option linter.all false
set_option maxRecDepth 100000
set_option maxHeartbeats 2000000
namespace Nk
open PySem PySem.Spec PyProof.Rows L2 Dn
abbrev Row := NestedKey × Value × Value
def atN (xs : List Row) (k : NestedKey) : Option Value := (xs.find? fun x => decide (x.1 = k)).map (·.2.2)
def putN (xs : List Row) (k : NestedKey) (u v : Value) : List Row :=
  if (xs.any fun x => decide (x.1 = k)) = true then xs.map (fun x => if x.1 = k then (x.1, x.2.1, v) else x) else xs ++ [(k, u, v)]
def IsN (h : Heap) (k : NestedKey) (u : Value) : Prop := NestedIs h k u ∧ k.depth ≤ 8 ∧ ∀ x t, u ≠ .str x t
def AllN (h : Heap) (xs : List Row) : Prop := ∀ x ∈ xs, NestedIs h x.1 x.2.1 ∧ x.1.depth ≤ 8
section
variable {prog : Program} {w : World} {A : Around} {E : Value → Shared → Prop} {s : Shared} {d : Addr} {k : NestedKey} {u v : Value} {xs : List Row}
abbrev plc (w : World) (es : Array DictEntry) (k : NestedKey) : List Nat := placesWithHash es.size (fun i => es[i]?.map (·.hash)) (k.hash w)
end
end Nk
set_option Elab.async false
set_option linter.all false
set_option maxRecDepth 100000
set_option maxHeartbeats 2000000
namespace Nk
open PySem PySem.Spec PyProof.Rows L2 Dn
def valN (ws : List (NestedKey × V × V)) (k : NestedKey) : Option V := (ws.find? fun p => decide (p.1 = k)).map (·.2.2)
def putW (ws : List (NestedKey × V × V)) (k : NestedKey) (y v : V) : List (NestedKey × V × V) :=
  if (ws.any fun p => decide (p.1 = k)) = true then ws.map (fun p => if p.1 = k then (p.1, p.2.1, v) else p) else ws ++ [(k, y, v)]
abbrev RelN (p : NestedKey × V × V) (q : Row) : Prop := p.1 = q.1 ∧ RelV p.2.1 q.2.1 ∧ RelV p.2.2 q.2.2
def NKey (X : Cx) (H : Hp) (y : V) (k : NestedKey) : Prop := ∀ pins σ s u, Inv X pins σ H s → RelV y u → IsN s.heap k u
section
variable {X : Cx} {pins : List (Addr × Obj)} {σ : L2.St} {H : Hp} {s : Shared} {a a' : Addr} {ws : List (NestedKey × V × V)} {k : NestedKey} {y v : V} {u r : Value} {A : Around} {E : Value → Shared → Prop}
end
def tNGet (X : Cx) (td ty : TE) : TE := fun σ H Q => td σ H fun x H1 => ty σ H1 fun y H2 => ∃ a a' ws k v, x = .ref a ∧ Rd H2 a (DN X.w a' ws) ∧ (∀ p ∈ ws, NKey X H2 p.2.1 p.1) ∧ NKey X H2 y k ∧ valN ws k = some v ∧ Q v H2
def tNIn (X : Cx) (ty td : TE) (f : Bool → Bool) : TE := fun σ H Q => ty σ H fun y H1 => td σ H1 fun x H2 => ∃ a a' ws k, x = .ref a ∧ Rd H2 a (DN X.w a' ws) ∧ (∀ p ∈ ws, NKey X H2 p.2.1 p.1) ∧ NKey X H2 y k ∧ Q (.bl (f (valN ws k).isSome)) H2
def sNPut (X : Cx) (td ty tv : TE) : TS := fun D σ H => tv σ H fun v H1 => td σ H1 fun x H2 => ty σ H2 fun y H3 => ∃ a a' ws k, x = .ref a ∧ H3 a = some (DN X.w a' ws) ∧ (∀ p ∈ ws, NKey X H3 p.2.1 p.1) ∧ NKey X H3 y k ∧ ws.length < sizeLine ∧ D.nx σ (upd H3 a (DN X.w a (putW ws k y v)))
section
variable {X : Cx} {o i e value : Expr} {pos pos' : Pos} {td ty tv : TE}
end
end Nk
set_option Elab.async false
set_option linter.all false
set_option maxRecDepth 100000
set_option maxHeartbeats 2000000
namespace Nk
open PySem PySem.Spec PyProof.Rows L2 Dn
section
variable {X : Cx} {pins : List (Addr × Obj)} {σ : L2.St} {H : Hp} {s : Shared} {a a' p : Addr} {ws : List (NestedKey × V × V)}
def tNNew (X : Cx) : TE := fun _ H Q => ∀ p, H p = none → Q (.ref p) (upd H p (DN X.w p []))
def tNLit (X : Cx) (ta tb : TE) : TE := fun σ H Q => ∀ p, H p = none → ta σ (upd H p (DN X.w p [])) fun v H1 => tb σ H1 fun w H2 => ∃ k, H2 p = some (DN X.w p []) ∧ NKey X H2 v k ∧ Q (.ref p) (upd H2 p (DN X.w p [(k, v, w)]))
def rLenN (X : Cx) : List V → Hp → VK → Prop := fun xs H Q => ∃ (p : Addr) (n : Nat), xs = [.ref p] ∧ ((∃ kvs : List (Key × V), kvs.length = n ∧ Rd H p (.dK kvs)) ∨ ∃ a ws, ws.length = n ∧ Rd H p (DN X.w a ws)) ∧ Q (.int (n : Int)) H
end
end Nk
namespace Dn
open PySem PySem.Spec PyProof.Rows L2 TL
variable [Tb0]
def Ty.kn : Ty → Bool
  | .int => true | .bool => true | .str => true | .tup _ => true | .p2 _ _ => true | .p3 _ _ _ => true
  | _ => false
def Ty.isK : Ty → Bool
  | .int => true | .bool => true | .str => true
  | .opt t => t.isK && t.kn
  | .tup t => t.isK
  | .p2 a b => a.isK && b.isK
  | .p3 a b c => a.isK && (b.isK && c.isK)
  | _ => false
def Ty.kd : Ty → Nat
  | .opt t => t.kd
  | .tup t => t.kd + 1
  | .p2 a b => max a.kd b.kd + 1
  | .p3 a b c => max a.kd (max b.kd c.kd) + 1
  | _ => 0
def Ty.topK : Ty → Bool
  | .str => false
  | .opt t => t.topK
  | _ => true
def Ty.okK (t : Ty) : Bool := t.isK && t.topK && decide (t.kd ≤ 8)
abbrev RepN (K : PySem.W.Frag) (k t : Ty) (G : Hp) (ws : List (NestedKey × V × V)) (kvs : List (k.den × t.den)) : Prop := Paired (fun (p : NestedKey × V × V) (y : k.den × t.den) => p.1 = nk k y.1 ∧ Rep K k G p.2.1 y.1 ∧ Rep K t G p.2.2 y.2) ws kvs
section
variable {K : PySem.W.Frag} {G : Hp} {k t : Ty}
end
section
variable {K : PySem.W.Frag} {F : Fx} {G H : Hp} {σ : L2.St} {Γ : List Slot} {i : Nat} {pin : Bool} {w : World} {k t : Ty} {kvs kvs' : List (k.den × t.den)}
end
section
variable {X : Cx} {a b e : Expr} {pos p pos' npos : Pos} {Γ Γ1 Γ2 : List Slot} {kt t : Ty} {kvs : List (kt.den × t.den)} {n : Str} {ρ : Type} {R : RI ρ}
end
end Dn
set_option Elab.async false
set_option linter.all false
set_option maxRecDepth 100000
set_option maxHeartbeats 2000000
namespace Nk
open PySem PySem.Spec PyProof.Rows L2 Dn
def setW (ws : List (NestedKey × V × V)) (k : NestedKey) (y v : V) : List (NestedKey × V × V) := if (valN ws k).isSome = true then ws else ws ++ [(k, y, v)]
section
variable {X : Cx} {pins : List (Addr × Obj)} {σ : L2.St} {H : Hp} {s : Shared} {a a' : Addr} {ws : List (NestedKey × V × V)} {k : NestedKey} {y v : V} {u r : Value} {A : Around} {E : Value → Shared → Prop}
def tNSetd (X : Cx) (td ty tx : TE) : TE := fun σ H Q => td σ H fun x H1 => ∃ a a0 ws0, x = .ref a ∧ Rd H1 a (DN X.w a0 ws0) ∧ ty σ H1 fun y H2 => tx σ H2 fun v H3 => ∃ a' ws k, H3 a = some (DN X.w a' ws) ∧ (∀ p ∈ ws, NKey X H3 p.2.1 p.1) ∧ NKey X H3 y k ∧ ws.length < sizeLine ∧ ∀ v', Q v' (upd H3 a (DN X.w a (setW ws k y v)))
end
end Nk
namespace Dn
open PySem PySem.Spec PyProof.Rows L2 TL
variable [Tb0]
def ksetd {α β : Type} [DecidableEq α] (kvs : List (α × β)) (k : α) (x : β) : List (α × β) := if (kget kvs k).isSome = true then kvs else kvs ++ [(k, x)]
section
variable {X : Cx} {a b e : Expr} {pos p apos cpos npos : Pos} {Γ Γ1 Γ2 : List Slot} {kt t : Ty} {kvs : List (kt.den × t.den)} {n : Str} {ρ : Type} {R : RI ρ}
end
end Dn
set_option Elab.async false
set_option linter.all false
set_option maxRecDepth 100000
set_option maxHeartbeats 2000000
namespace Dn
open PySem PySem.Spec PyProof.Rows L2
variable [Tb0]
def whileLN {S ρ : Type} (c : S → Bool) (f : S → Lp S ρ) : Nat → S → Lp S ρ
  | 0, s => .go s
  | n + 1, s => bif c s then (f s).step (fun s' => whileLN c f n s') else .go s
def OkWL {S ρ : Type} (Pc P : S → Prop) (c : S → Bool) (f : S → Lp S ρ) : Nat → S → Prop
  | 0, s => Pc s ∧ c s = false
  | n + 1, s => Pc s ∧ (c s = true → P s ∧ (f s).onGo (fun s' => OkWL Pc P c f n s'))
theorem whileLN_le {S ρ : Type} {Pc P : S → Prop} {c : S → Bool} {f : S → Lp S ρ} : ∀ {n m : Nat} {s : S}, OkWL Pc P c f n s → OkWL Pc P c f m s → whileLN c f n s = whileLN c f m s
  | 0, 0, _, _, _ => rfl
  | 0, m + 1, s, h, _ => by simp [whileLN, h.2]
  | n + 1, 0, s, _, h => by simp [whileLN, h.2]
  | n + 1, m + 1, s, h, h' => by
    simp only [whileLN]
    cases e : c s with
    | false => rfl
    | true =>
      have h1 := (h.2 e).2
      have h2 := (h'.2 e).2
      cases r : f s with
      | go s' => rw [r] at h1 h2; exact whileLN_le (show OkWL Pc P c f n s' from h1) (show OkWL Pc P c f m s' from h2)
      | stop s' => rfl
      | ret x => rfl
def EndWL {S ρ : Type} (c : S → Bool) (f : S → Lp S ρ) (s : S) : Prop := ∃ n, OkWL (fun _ => True) (fun _ => True) c f n s
theorem okWL_end {S ρ : Type} {Pc P : S → Prop} {c : S → Bool} {f : S → Lp S ρ} : ∀ {n : Nat} {s : S}, OkWL Pc P c f n s → OkWL (fun _ => True) (fun _ => True) c f n s
  | 0, _, h => ⟨trivial, h.2⟩
  | n + 1, s, h => ⟨trivial, fun e => ⟨trivial, by
    have h1 := (h.2 e).2
    cases r : f s with
    | go s' => rw [r] at h1; exact okWL_end (show OkWL Pc P c f n s' from h1)
    | stop s' => trivial
    | ret x => trivial⟩⟩
open Classical in
noncomputable def whileLV {S ρ : Type} (c : S → Bool) (f : S → Lp S ρ) (s : S) : Lp S ρ := if h : EndWL c f s then whileLN c f (Classical.choose h) s else .go s
theorem whileLV_eq {S ρ : Type} {Pc P : S → Prop} {c : S → Bool} {f : S → Lp S ρ} {n : Nat} {s : S} (h : OkWL Pc P c f n s) : whileLV c f s = whileLN c f n s := by
  have e : EndWL c f s := ⟨n, okWL_end h⟩
  unfold whileLV
  rw [dif_pos e]
  exact whileLN_le (Classical.choose_spec e) (okWL_end h)
def AllWL {S ρ : Type} (Pc P : S → Prop) (c : S → Bool) (f : S → Lp S ρ) (s : S) : Prop := ∃ n, OkWL Pc P c f n s
section
variable {X : Cx} {ρ S : Type} {R : RI ρ} {tc : Expr} {body : List Stmt} {pos : Pos} {Γ : List Slot} {Pc P : S → Prop}
end
end Dn
set_option Elab.async false
set_option linter.all false
set_option maxRecDepth 100000
set_option maxHeartbeats 2000000
namespace Zn
open PySem PySem.Spec PyProof.Rows L2 RZ
abbrev Zp (h : Heap) (z TI TO : Addr) (f0 : Value) (f : Bool) : Prop :=
  h.get? z = some { cls := .type "zip", dict := none, data := .fields #[f0, .bool f, .bool false, .ref TI, .ref TO], slots := #[] }
def Out0 (f0 : Value) : Prop := f0 = .none ∨ ∃ T : Addr, f0 = rawInt T
section
variable {prog : Program} {w : World} {A : Around} {E : Value → Shared → Prop} {s : Shared} {z TI TO i1 i2 l1 l2 : Addr} {f0 : Value} {f : Bool} {k1 k2 : Nat} {xs ys : Array Value}
theorem zn_free {Q : Bool → Shared → Prop} (hz : Zp s.heap z TI TO f0 f) (h0 : Out0 f0) (hy : Q true s) (hn : ∀ g, Zp g z TI TO f0 true → Heap.SameBut z s.heap g → Q false { s with heap := g }) : wpAny (model prog w) A (Builtin.SmallTypes.ownedTupleIsFree (.ref z)) Q E s := by
  unfold Builtin.SmallTypes.ownedTupleIsFree
  rcases h0 with rfl | ⟨T, rfl⟩
  · exact wpAny_bind (wpAny_field hz rfl (x := Value.none) rfl (wpAny_pure hy))
  refine wpAny_bind (wpAny_field hz rfl (x := (rawInt T)) rfl ?_)
  show wpAny _ _ (loadIfAlive (Int.toNat (T : Int)) >>= _) _ _ _
  rw [Int.toNat_natCast]
  refine wpAny_bind ?_
  refine (fun q => (fun _ _ _ => q : wpAny (model prog w) A (loadIfAlive T) (fun o s' => wpAny (model prog w) A _ Q E s') E s)) ?_
  cases e : s.heap.get? T with
  | none => exact wpAny_pure hy
  | some o =>
    simp only [Option.isNone_some, Bool.false_eq_true, if_false]
    refine wpAny_bind (wpAny_field hz rfl (x := (Value.bool f)) rfl ?_)
    cases f with
    | true => exact wpAny_pure (hn s.heap hz (Heap.SameBut.refl _ _))
    | false =>
      rw [if_pos (show (Value.bool false != Value.bool true) = true by rfl)]
      exact wpAny_bind (wpAny_setField_rec hz (by simp) fun g hg sg => wpAny_pure (hn g hg sg))
theorem zn_item {x y a b : Value} {Q : Value → Shared → Prop} (D : ZipApart z TI TO i1 i2 l1 l2) (hz : Zp s.heap z TI TO f0 f) (h0 : Out0 f0) (hTI : IsPair s.heap TI (.ref i1) (.ref i2)) (hTO : IsPair s.heap TO a b)
    (h1 : s.heap.IsTupleIter i1 l1 k1) (h2 : s.heap.IsTupleIter i2 l2 k2) (hl1 : s.heap.IsTuple l1 xs) (hl2 : s.heap.IsTuple l2 ys) (hx : xs[k1]? = some x) (hy : ys[k2]? = some y)
    (hQ : ∀ g f1 f', Zp g z TI TO f1 f' → Out0 f1 → (∃ a' b', IsPair g TO a' b') → g.IsTupleIter i1 l1 (k1 + 1) → g.IsTupleIter i2 l2 (k2 + 1) → IsPair g s.heap.objs.size x y → (∀ c o, c ≠ z → c ≠ TO → c ≠ i1 → c ≠ i2 → s.heap.get? c = some o → g.get? c = some o) → Q (.ref s.heap.objs.size) { s with heap := g }) :
    wpAny (model prog w) A (Builtin.«zip.__next__» ⟨[.ref z], []⟩) (fun fin s' => ∃ v, fin = .done (.ret v) ∧ Q v s') E s := by
  have hTOl : TO < s.heap.objs.size := Heap.lt_size hTO
  show wpAny _ _ (field (.ref z) 2 >>= fun _ => _) _ _ _
  refine wpAny_bind (wpAny_field hz rfl (x := (Value.bool false)) rfl ?_)
  show wpAny _ _ (field (.ref z) 3 >>= fun _ => _) _ _ _
  refine wpAny_bind (wpAny_field hz rfl (x := (Value.ref TI)) rfl (wpAny_bind (wpAny_seqItems hTI rfl ?_)))
  show wpAny _ _ (Builtin.SmallTypes.ownedTupleIsFree (.ref z) >>= fun _ => _) _ _ _
  refine wpAny_bind (zn_free hz h0 ?_ fun g1 z1 s1 => ?_)
  · -- the tuple of its own is free
    simp only [if_true]
    refine wpAny_bind (wpAny_rule (wpAny_bind (wpAny_field hz rfl (x := (Value.ref TO)) rfl (wpAny_bind (wpAny_setField_rec hz (by simp) fun g1 z1 s1 => ?_)))))
    replace z1 : Zp g1 z TI TO .ellipsis f := z1
    refine wpAny_bind ?_
    simp only [List.zipIdx_cons, List.zipIdx_nil, List.forIn_cons, List.forIn_nil]
    refine wpAny_bind (wpAny_bind (wpAny_onRaise ?_))
    show wpAny _ _ (Builtin.SmallTypes.nextOf (.ref i1) >>= fun _ => _) _ _ _
    refine wpAny_bind (nextOf_tuple_item (h1.extBut s1.extBut D.i1z) (hl1.extBut s1.extBut D.l1z) hx fun g2 a2 s2 => wpAny_pure ?_)
    have t2 : IsPair g2 TO a b := s2.extBut _ _ D.TOi1 (s1.extBut _ _ D.TOz hTO)
    refine wpAny_bind (wpAny_seqItems t2 rfl (wpAny_bind (wpAny_updateSeq_pair t2 fun g3 t3 s3 => ?_)))
    replace t3 : IsPair g3 TO x b := t3
    refine wpAny_bind (wpAny_letGo (wpAny_pure (wpAny_bind (wpAny_bind (wpAny_onRaise ?_)))))
    show wpAny _ _ (Builtin.SmallTypes.nextOf (.ref i2) >>= fun _ => _) _ _ _
    refine wpAny_bind (nextOf_tuple_item (((h2.extBut s1.extBut D.i2z).extBut s2.extBut D.i12.symm).extBut s3.extBut D.TOi2.symm) (((hl2.extBut s1.extBut D.l2z).extBut s2.extBut D.l2i1).extBut s3.extBut D.l2TO) hy fun g4 a4 s4 => wpAny_pure ?_)
    have t4 : IsPair g4 TO x b := s4.extBut _ _ D.TOi2 t3
    refine wpAny_bind (wpAny_seqItems t4 rfl (wpAny_bind (wpAny_updateSeq_pair t4 fun g5 t5 s5 => ?_)))
    replace t5 : IsPair g5 TO x y := t5
    refine wpAny_bind (wpAny_letGo (wpAny_pure (wpAny_pure (wpAny_bind (wpAny_seqItems t5 rfl (wpAny_bind (wpAny_newTuple ?_)))))))
    have sz : g5.objs.size = s.heap.objs.size := by rw [s5.1, s4.1, s3.1, s2.1, s1.1]
    have z5 : Zp g5 z TI TO .ellipsis f := s5.extBut _ _ D.TOz.symm (s4.extBut _ _ D.i2z.symm (s3.extBut _ _ D.TOz.symm (s2.extBut _ _ D.i1z.symm z1)))
    have k5 : ∀ c o, c ≠ z → c ≠ TO → c ≠ i1 → c ≠ i2 → s.heap.get? c = some o → g5.get? c = some o := fun c o c1 c2 c3 c4 e => s5.extBut _ _ c2 (s4.extBut _ _ c4 (s3.extBut _ _ c2 (s2.extBut _ _ c3 (s1.extBut _ _ c1 e))))
    have b1 : g5.IsTupleIter i1 l1 (k1 + 1) := ((a2.extBut s3.extBut D.TOi1.symm).extBut s4.extBut D.i12).extBut s5.extBut D.TOi1.symm
    have b2 : g5.IsTupleIter i2 l2 (k2 + 1) := a4.extBut s5.extBut D.TOi2.symm
    have zl : z < g5.objs.size := Heap.lt_size z5
    show wpAny _ _ (Builtin.SmallTypes.ownedTupleHandOut (.ref z) (.ref g5.objs.size) >>= fun _ => _) _ _ _
    refine wpAny_bind ?_
    unfold Builtin.SmallTypes.ownedTupleHandOut
    have z6 : Zp (g5.push { cls := .type "tuple", data := .seq #[x, y] }) z TI TO .ellipsis f := Heap.get?_push_of_some _ z5
    refine wpAny_bind (wpAny_setField_rec z6 (by simp) fun g7 z7 s7 => ?_)
    replace z7 : Zp g7 z TI TO (rawInt g5.objs.size) f := z7
    refine wpAny_setField_rec z7 (by simp) fun g8 z8 s8 => ?_
    replace z8 : Zp g8 z TI TO (rawInt g5.objs.size) false := z8
    have up : ∀ c o, c ≠ z → g5.get? c = some o → g8.get? c = some o := fun c o c1 e => s8.extBut _ _ c1 (s7.extBut _ _ c1 (Heap.get?_push_of_some _ e))
    have p8 : IsPair g8 g5.objs.size x y := s8.extBut _ _ (Nat.ne_of_gt zl) (s7.extBut _ _ (Nat.ne_of_gt zl) (Heap.get?_push_size _ rfl))
    rw [sz] at p8
    refine wpAny_pure ⟨_, rfl, ?_⟩
    show Q (.ref g5.objs.size) _
    rw [sz]
    exact hQ g8 _ _ z8 (.inr ⟨_, rfl⟩) ⟨x, y, up _ _ D.TOz t5⟩ (b1.at fun o e => up _ o D.i1z e) (b2.at fun o e => up _ o D.i2z e) p8 fun c o c1 c2 c3 c4 e => up c o c1 (k5 c o c1 c2 c3 c4 e)
  · -- it is out
    simp only [Bool.false_eq_true, if_false]
    refine wpAny_bind ?_
    rw [← Array.forIn_toList]
    simp only [List.forIn_cons, List.forIn_nil]
    refine wpAny_bind (wpAny_bind (wpAny_holding ?_))
    show wpAny _ _ (Builtin.SmallTypes.nextOf (.ref i1) >>= fun _ => _) _ _ _
    refine wpAny_bind (nextOf_tuple_item (s := { s with heap := g1 }) (h1.extBut s1.extBut D.i1z) (hl1.extBut s1.extBut D.l1z) hx fun g2 a2 s2 => wpAny_pure (wpAny_pure (wpAny_bind (wpAny_bind (wpAny_holding ?_)))))
    show wpAny _ _ (Builtin.SmallTypes.nextOf (.ref i2) >>= fun _ => _) _ _ _
    refine wpAny_bind (nextOf_tuple_item (s := { s with heap := g2 }) ((h2.extBut s1.extBut D.i2z).extBut s2.extBut D.i12.symm) ((hl2.extBut s1.extBut D.l2z).extBut s2.extBut D.l2i1) hy fun g3 a3 s3 => wpAny_pure (wpAny_pure (wpAny_pure ?_)))
    show wpAny _ _ (newTuple [x, y] >>= fun _ => _) _ _ _
    refine wpAny_bind (wpAny_newTuple ?_)
    have sz : g3.objs.size = s.heap.objs.size := by rw [s3.1, s2.1, s1.1]
    have z3 : Zp g3 z TI TO f0 true := s3.extBut _ _ D.i2z.symm (s2.extBut _ _ D.i1z.symm z1)
    have k3 : ∀ c o, c ≠ z → c ≠ i1 → c ≠ i2 → s.heap.get? c = some o → g3.get? c = some o := fun c o c1 c2 c3 e => s3.extBut _ _ c3 (s2.extBut _ _ c2 (s1.extBut _ _ c1 e))
    have b1 : g3.IsTupleIter i1 l1 (k1 + 1) := a2.extBut s3.extBut D.i12
    have t3 : IsPair g3 TO a b := k3 _ _ D.TOz D.TOi1 D.TOi2 hTO
    have p4 : IsPair (g3.push { cls := .type "tuple", data := .seq #[x, y] }) g3.objs.size x y := Heap.get?_push_size _ rfl
    rw [sz] at p4
    refine wpAny_pure ⟨_, rfl, ?_⟩
    show Q (.ref g3.objs.size) _
    rw [sz]
    exact hQ _ f0 true (Heap.get?_push_of_some _ z3) h0 ⟨a, b, Heap.get?_push_of_some _ t3⟩ (b1.at fun o e => Heap.get?_push_of_some _ e) (a3.at fun o e => Heap.get?_push_of_some _ e) p4 fun c o c1 _ c3 c4 e => Heap.get?_push_of_some _ (k3 c o c1 c3 c4 e)
theorem zn_end {a b : Value} {Q : Fin → Shared → Prop} (hh : A.handled = none) (D : ZipApart z TI TO i1 i2 l1 l2) (hz : Zp s.heap z TI TO f0 f) (h0 : Out0 f0) (hTI : IsPair s.heap TI (.ref i1) (.ref i2)) (hTO : IsPair s.heap TO a b)
    (h1 : s.heap.IsTupleIter i1 l1 k1) (h2 : s.heap.IsTupleIter i2 l2 k2) (hl1 : s.heap.IsTuple l1 xs) (hl2 : s.heap.IsTuple l2 ys) (hend : xs[k1]? = none ∨ ys[k2]? = none)
    (hE : ∀ g e, (∀ c o, c ≠ z → c ≠ TO → c ≠ i1 → c ≠ i2 → s.heap.get? c = some o → g.get? c = some o) → (∃ o, g.get? e = some o ∧ o.cls = .type "StopIteration") → E (.ref e) { s with heap := g }) :
    wpAny (model prog w) A (Builtin.«zip.__next__» ⟨[.ref z], []⟩) Q E s := by
  show wpAny _ _ (field (.ref z) 2 >>= fun _ => _) _ _ _
  refine wpAny_bind (wpAny_field hz rfl (x := (Value.bool false)) rfl ?_)
  show wpAny _ _ (field (.ref z) 3 >>= fun _ => _) _ _ _
  refine wpAny_bind (wpAny_field hz rfl (x := (Value.ref TI)) rfl (wpAny_bind (wpAny_seqItems hTI rfl ?_)))
  show wpAny _ _ (Builtin.SmallTypes.ownedTupleIsFree (.ref z) >>= fun _ => _) _ _ _
  refine wpAny_bind (zn_free hz h0 ?_ fun g1 z1 s1 => ?_)
  · simp only [if_true]
    refine wpAny_bind (wpAny_rule (wpAny_bind (wpAny_field hz rfl (x := (Value.ref TO)) rfl (wpAny_bind (wpAny_setField_rec hz (by simp) fun g1 z1 s1 => ?_)))))
    replace z1 : Zp g1 z TI TO .ellipsis f := z1
    refine wpAny_bind ?_
    simp only [List.zipIdx_cons, List.zipIdx_nil, List.forIn_cons, List.forIn_nil]
    refine wpAny_bind (wpAny_bind (wpAny_onRaise ?_))
    show wpAny _ _ (Builtin.SmallTypes.nextOf (.ref i1) >>= fun _ => _) _ _ _
    cases hx : xs[k1]? with
    | none =>
      refine wpAny_bind (nextOf_tuple_end hh (h1.extBut s1.extBut D.i1z) (hl1.extBut s1.extBut D.l1z) hx fun g2 e s2 ⟨oe, hoe, hce⟩ => ?_)
      have z2 : Zp g2 z TI TO .ellipsis f := s2 _ _ D.i1z.symm z1
      have ez : e ≠ z := fun q => by subst q; rw [z2] at hoe; cases hoe; simp at hce
      exact wpAny_setField_rec z2 (by simp) fun g3 _ s3 => hE g3 e (fun c o c1 _ c3 _ q => s3.extBut _ _ c1 (s2 _ _ c3 (s1.extBut _ _ c1 q))) ⟨oe, s3.extBut _ _ ez hoe, hce⟩
    | some x =>
      have hy : ys[k2]? = none := by rcases hend with q | q; · rw [hx] at q; cases q
                                     · exact q
      refine wpAny_bind (nextOf_tuple_item (h1.extBut s1.extBut D.i1z) (hl1.extBut s1.extBut D.l1z) hx fun g2 a2 s2 => wpAny_pure ?_)
      have t2 : IsPair g2 TO a b := s2.extBut _ _ D.TOi1 (s1.extBut _ _ D.TOz hTO)
      refine wpAny_bind (wpAny_seqItems t2 rfl (wpAny_bind (wpAny_updateSeq_pair t2 fun g3 t3 s3 => ?_)))
      refine wpAny_bind (wpAny_letGo (wpAny_pure (wpAny_bind (wpAny_bind (wpAny_onRaise ?_)))))
      show wpAny _ _ (Builtin.SmallTypes.nextOf (.ref i2) >>= fun _ => _) _ _ _
      refine wpAny_bind (nextOf_tuple_end hh (((h2.extBut s1.extBut D.i2z).extBut s2.extBut D.i12.symm).extBut s3.extBut D.TOi2.symm) (((hl2.extBut s1.extBut D.l2z).extBut s2.extBut D.l2i1).extBut s3.extBut D.l2TO) hy fun g4 e s4 ⟨oe, hoe, hce⟩ => ?_)
      have z4 : Zp g4 z TI TO .ellipsis f := s4 _ _ D.i2z.symm (s3.extBut _ _ D.TOz.symm (s2.extBut _ _ D.i1z.symm z1))
      have ez : e ≠ z := fun q => by subst q; rw [z4] at hoe; cases hoe; simp at hce
      exact wpAny_setField_rec z4 (by simp) fun g5 _ s5 => hE g5 e (fun c o c1 c2 c3 c4 q => s5.extBut _ _ c1 (s4 _ _ c4 (s3.extBut _ _ c2 (s2.extBut _ _ c3 (s1.extBut _ _ c1 q))))) ⟨oe, s5.extBut _ _ ez hoe, hce⟩
  · simp only [Bool.false_eq_true, if_false]
    refine wpAny_bind ?_
    rw [← Array.forIn_toList]
    simp only [List.forIn_cons, List.forIn_nil]
    refine wpAny_bind (wpAny_bind (wpAny_holding ?_))
    show wpAny _ _ (Builtin.SmallTypes.nextOf (.ref i1) >>= fun _ => _) _ _ _
    cases hx : xs[k1]? with
    | none =>
      exact wpAny_bind (nextOf_tuple_end (s := { s with heap := g1 }) hh (h1.extBut s1.extBut D.i1z) (hl1.extBut s1.extBut D.l1z) hx fun g2 e s2 he => hE g2 e (fun c o c1 _ c3 _ q => s2 _ _ c3 (s1.extBut _ _ c1 q)) he)
    | some x =>
      have hy : ys[k2]? = none := by rcases hend with q | q; · rw [hx] at q; cases q
                                     · exact q
      refine wpAny_bind (nextOf_tuple_item (s := { s with heap := g1 }) (h1.extBut s1.extBut D.i1z) (hl1.extBut s1.extBut D.l1z) hx fun g2 a2 s2 => wpAny_pure (wpAny_pure (wpAny_bind (wpAny_bind (wpAny_holding ?_)))))
      show wpAny _ _ (Builtin.SmallTypes.nextOf (.ref i2) >>= fun _ => _) _ _ _
      exact wpAny_bind (nextOf_tuple_end (s := { s with heap := g2 }) hh ((h2.extBut s1.extBut D.i2z).extBut s2.extBut D.i12.symm) ((hl2.extBut s1.extBut D.l2z).extBut s2.extBut D.l2i1) hy fun g3 e s3 he => hE g3 e (fun c o c1 _ c3 c4 q => s3 _ _ c4 (s2.extBut _ _ c3 (s1.extBut _ _ c1 q))) he)
end
def iZipN (K : PySem.W.Frag) (ta : TA) : TI := fun σ H R => ta σ H fun vs H1 => ∃ a b xs ys, vs = [.ref a, .ref b] ∧ SqT K H1 a xs ∧ SqT K H1 b ys ∧ R (RZ.ItzT K a b) H1
end Zn
namespace Dn
open PySem PySem.Spec PyProof.Rows L2
variable [Tb0]
section
variable {X : Cx} {Γ Γ1 Γ2 : List Slot} {a b : Expr} {pos p : Pos} {t u : Ty} {g : TG} {tgs : List Nat}
end
end Dn
set_option Elab.async false
set_option linter.all false
set_option maxRecDepth 100000
set_option maxHeartbeats 1000000
namespace Dn
open PySem PySem.Spec PyProof.Rows L2 TL
variable [Tb0]
structure FunW (K : PySem.W.Frag) (x qual : Str) (st : Stmt) (f : Addr) (fd : FuncData) : Prop where
  ex : ∃ (oc : Value) (od : Option Addr) (dV kV doc pm : Value) (an : Option Addr) (cdv ct : Value) (osl : Array (Option Value)),
    fd = PySem.W.fnOf x qual (defArgs st) (defBody st) (defScope st) dV kV doc pm an cdv ct ∧ K.lookup f = some ⟨oc, od, .func fd, osl⟩ ∧ PySem.W.codeIn K cdv qual = true
  kp : PySem.W.keepIn K (.ref f) = true
section
variable {P : Program} {w : World} {K : PySem.W.Frag} {mg : Str → Option Value} {base : Heap}
end
end Dn
set_option Elab.async false
set_option linter.all false
set_option maxRecDepth 100000
set_option maxHeartbeats 1000000
namespace Dn
open PySem PySem.Spec PyProof.Rows L2
variable [Tb0]
theorem vals_ints : ∀ {ys : List Int} {its : List Value}, Vals (ys.map V.int) its → its.length = ys.length ∧ ∀ (m : Nat) (y : Int), ys[m]? = some y → ∃ t, its[m]? = some (.int y t)
  | [], _, .nil => ⟨rfl, fun m y h => by cases h⟩
  | _ :: ys, _, .cons r h => by
    obtain ⟨a, b⟩ := vals_ints h
    refine ⟨by rw [List.length_cons, List.length_cons, a], fun m y e => ?_⟩
    cases m with
    | zero => obtain ⟨t, rfl⟩ := r; cases e; exact ⟨t, rfl⟩
    | succ m => exact b m y e
def rIdxI (K : PySem.W.Frag) : V → List V → Hp → VK → Prop := fun x xs H Q => ∃ (p : Addr) (ys : List Int) (z : Int), x = .ref p ∧ xs = [.int z] ∧ SqT K H p (ys.map V.int) ∧ z ∈ ys ∧ Q (.int ((idx ys z : Nat) : Int)) H
section
variable {X : Cx} {Γ Γ1 Γ2 : List Slot} {a b : Expr} {pos apos : Pos}
def tIdxI (K : PySem.W.Frag) (to : TE) (tb : TA) : TE := fun σ H Q => to σ H fun x H1 => ∃ (p : Addr) (o : Obj) (ys : List V), x = .ref p ∧ H1 p = some (.frz o (.tup ys)) ∧ o.dict = none ∧
  tb σ H1 fun us H2 => ∃ (zs : List Int) (z : Int), us = [.int z] ∧ SqT K H2 p (zs.map V.int) ∧ z ∈ zs ∧ Q (.int ((idx zs z : Nat) : Int)) H2
end
end Dn
set_option Elab.async false
set_option linter.all false
set_option maxRecDepth 100000
set_option maxHeartbeats 2000000
namespace Dn
open PySem PySem.Spec PyProof.Rows L2 TL
variable [Tb0]
structure ClXd (P : Program) (w : World) (K : PySem.W.Frag) (mg : Str → Option Value) (base : Heap) (k : Nat) (m : Str) (ps : List Str) (dvs : List V) (sp : Sp) : Prop where
  ex : ∃ (f : Addr) (fd : FuncData) (ds : List Value), FnX P w K mg base k f fd ps sp ∧ mg m = some (.ref f) ∧ PySem.W.keepIn K (.ref f) = true ∧ Vals dvs ds ∧ Binds K fd ps ds
theorem ClX.d {P : Program} {w : World} {K : PySem.W.Frag} {mg : Str → Option Value} {base : Heap} {k : Nat} {m : Str} {ps : List Str} {sp : Sp} (C : ClX P w K mg base k m ps sp) : ClXd P w K mg base k m ps [] sp := by
  obtain ⟨f, fd, F, a, b, c⟩ := C.ex
  exact ⟨f, fd, [], F, a, b, .nil, c⟩
section
variable {X : Cx} {f : Addr} {fd : FuncData} {ps : List Str} {sp : Sp} {k : Nat} {n : Str} {p pos : Pos} {e : Expr} {es : List Expr} {ta : TA} {E : L2.St → XK} {dvs : List V} {ds : List Value}
def fillS (sp : Sp) (dvs : List V) : Sp := fun vs H Q E => sp (vs ++ dvs) H Q E
end
section
variable {X : Cx} {ρ : Type} {R : RI ρ} {S : List Slot → Prop} {c : Value} {f : Option Str} {W : WX} {Γ Γ1 : List Slot} {pos pos' p np : Pos} {e : Expr} {es : List Expr} {t u : Ty} {dvs : List V} {das : List Arg}
end
end Dn
set_option Elab.async false
set_option linter.all false
set_option maxRecDepth 100000
set_option maxHeartbeats 1000000
namespace Dn
open PySem PySem.Spec PyProof.Rows L2 TL LamX NdefX
variable [Tb0]
def PmG (K : PySem.W.Frag) (G : Hp) (as : List Arg) (r : Ret) : Sp := fun vs H Q _ => (Same G H ∧ TbOk G H) ∧ Paired (ArgF K G) vs as ∧
  ∀ v G' H', Same G G' → Same G' H' → Kp H G' H' → (∀ c o, H c = some o → NT o → G c = none → G' c = none) → RetOk K G' H H' v r → Q v H'
structure Able (P : Program) (w : World) (K : PySem.W.Frag) (mg : Str → Option Value) (base : Heap) (k : Nat) (φ : Hp → V → Prop) (sp : Hp → Sp) : Prop where
  fn : ∀ (G H : Hp) (v : V) (h : Heap), φ G v → Same G H → HOk P w H h → ∃ f, v = .ref f ∧ PySem.W.FnAt f h
  run : ∀ (A : Around) (outer : List Env) (s : Shared) (H G : Hp) (us : List Value) (vs : List V) (f : Addr) (Q : VK), RoomG k A → Env0 P w K mg base A outer s H → Same G H → φ G (.ref f) → Vals vs us → sp G vs H Q E0 →
    codeAny (model P w) A (.call (.ref f) ⟨us, []⟩) (CR CX0 outer P w H s Q E0) s
section
variable {X : Cx} {φ : Hp → V → Prop} {mono : ∀ (G G' : Hp) (v : V), Same G G' → φ G v → φ G' v} {sp : Hp → Sp} {k i : Nat} {n : Str} {p pos : Pos} {e : Expr} {es : List Expr}
end
section
variable {K : PySem.W.Frag} {F : Fx} {G H : Hp} {σ : L2.St} {Γ : List Slot}
theorem Wd.tbl {P : Addr} {nm : Nat → Nat → Str} {ps ps' : Array Value} (W : Wd K F G σ H Γ) (hm : (P, nm) ∈ Tb0.ts) (hu : ∀ p ∈ Tb0.ts, p.1 = P → p.2 = nm) (hP : H P = some (.tbl ps)) (ht : TriplesOk ps'.toList)
    (h3 : ∀ (pos : Pos) (cv : Value), codeAmong pos ps'.toList = some cv → ∃ c, cv = .ref c ∧ G c = some (CodeO c (nm pos.line pos.col))) : Wd K F G σ (upd H P (.tbl ps')) Γ := by
  have gP : G P = none := (W.tb _ hm).1
  have ne : ∀ {a : Addr} {o : HO}, H a = some o → NT o → a ≠ P := fun e n z => by rw [z, hP] at e; cases e; exact n.2 _ rfl
  refine ⟨W.len, fun b o e => ?_, fun b o e => ?_, W.tg, fun i s e => ?_, W.dj, W.ns.goN (fun _ _ _ e => ⟨e, rfl⟩) (Same.refl G) (fun a o h1 hn h2 h3 h4 => ⟨by rw [upd_ne (ne h1 hn)]; exact h1, h2, h3, h4⟩), fun p m => ?_⟩
  · rw [upd_ne (ne_of_none e gP)]; exact W.gh b o e
  · by_cases z : b = P
    · subst z
      refine ⟨fun nb => ?_, by rw [upd_same]; simp⟩
      have := (W.th b o e).1 nb
      rw [hP] at this; cases this
      exact absurd rfl (nb ps)
    · rw [upd_ne z]; exact W.th b o e
  · have q := W.sl i s e
    cases s with
    | un => exact q
    | fr t x => exact q
    | fd o => exact q
    | mb t x => exact q
    | ns t x => exact q
    | ow pin o =>
      obtain ⟨a, ho', e1, e2, e3, e4, e5, e6⟩ := q
      exact ⟨a, ho', e1, e2, e3, by rw [upd_ne (ne e4 (own_nt e5))]; exact e4, e5, e6⟩
  · by_cases z : p.1 = P
    · refine ⟨z ▸ gP, ps', by rw [z]; exact upd_same, ht, ?_⟩
      rw [hu p m z]; exact h3
    · obtain ⟨h0, qs, h1, h2, h3⟩ := W.tb p m
      exact ⟨h0, qs, by rw [upd_ne z]; exact h1, h2, h3⟩
end
def LamO (f : Addr) (q : Str) (params : Arguments) (body : Expr) (scope : Scope) (cl : List (Str × Addr)) (c : Addr) : HO := .ext fun h => ∃ (pm ctv : Value), h.get? f = some (PySem.W.kla_obj "<lambda>" q params body scope cl pm c ctv)
def φLam (q : Str) (params : Arguments) (body : Expr) (scope : Scope) (cl : List (Str × Addr)) : Hp → V → Prop := fun G v => ∃ f c, v = .ref f ∧ G f = some (LamO f q params body scope cl c) ∧ G c = some (CodeO c q)
def DF (X : Cx) (e : Expr) (Γ : List Slot) (φ : Hp → V → Prop) (Γ' : List Slot) : Prop :=
  ∀ (F : Fx) (G : Hp) (σ : L2.St) (H : Hp), Wd X.K F G σ H Γ → ∀ Q : VK, (∀ v G' H', Same G G' → Wd X.K F G' σ H' Γ' → φ G' v → Q v H') → WPE X e σ H Q
section
variable {X : Cx} {pins : List (Addr × Obj)} {σ : L2.St} {H : Hp} {s : Shared}
def tLamV (P : Addr) (nm : Nat → Nat → Str) (pos : Pos) (mk : Addr → Addr → HO) : TE := fun σ H Q => ∃ ps : Array Value, H P = some (.tbl ps) ∧ TriplesOk ps.toList ∧ (∀ (pos : Pos) (cv : Value), codeAmong pos ps.toList = some cv → ∃ c, cv = .ref c ∧ H c = some (CodeO c (nm pos.line pos.col))) ∧
  (∀ f c, codeAmong pos ps.toList = some (.ref c) → H f = none → Q (.ref f) (upd H f (mk f c))) ∧
  (∀ f c, H c = none → H f = none → f ≠ c → TriplesOk (ps ++ #[rawInt pos.line, rawInt pos.col, .ref c]).toList → (∀ (p' : Pos) (cv : Value), codeAmong p' (ps ++ #[rawInt pos.line, rawInt pos.col, .ref c]).toList = some cv → codeAmong p' ps.toList = some cv ∨ (cv = .ref c ∧ pos.line = p'.line ∧ pos.col = p'.col)) →
    Q (.ref f) (upd (upd (upd H P (.tbl (ps ++ #[rawInt pos.line, rawInt pos.col, .ref c]))) c (CodeO c (nm pos.line pos.col))) f (mk f c)))
end
end Dn
set_option Elab.async false
set_option linter.all false
set_option maxRecDepth 100000
set_option maxHeartbeats 1000000
namespace Dn
open PySem PySem.Spec PyProof.Rows L2 TL LamX NdefX
variable [Tb0]
def SlG (K : PySem.W.Frag) (Γ : List Slot) (σ : L2.St) (G : Hp) : Prop := ∀ (i : Nat) (s : Slot), Γ[i]? = some s → match s with
  | .fr t x => ∃ v, σ[i]? = some (some v) ∧ Rep K t G v x
  | .fd o => ∃ v, σ[i]? = some (some v) ∧ FzOk K G v o
  | _ => True
theorem slG_mono {K : PySem.W.Frag} {Γ : List Slot} {σ : L2.St} {G G' : Hp} (sm : Same G G') (h : SlG K Γ σ G) : SlG K Γ σ G' := fun i s e => by
  have q := h i s e
  cases s with
  | fr t x => obtain ⟨v, h1, h2⟩ := q; exact ⟨v, h1, rep_mono sm t v x h2⟩
  | fd o => obtain ⟨v, h1, h2⟩ := q; exact ⟨v, h1, fz_mono sm h2⟩
  | _ => trivial
def capφ (K : PySem.W.Frag) (Γ : List Slot) (σ : L2.St) (φ : Hp → V → Prop) : Hp → V → Prop := fun G v => φ G v ∧ SlG K Γ σ G
theorem capφ_mono {K : PySem.W.Frag} {Γ : List Slot} {σ : L2.St} {φ : Hp → V → Prop} (m : ∀ (G G' : Hp) (v : V), Same G G' → φ G v → φ G' v) : ∀ (G G' : Hp) (v : V), Same G G' → capφ K Γ σ φ G v → capφ K Γ σ φ G' v := fun G G' v s h => ⟨m _ _ _ s h.1, slG_mono s h.2⟩
def capO (K : PySem.W.Frag) (Γ : List Slot) (σ : L2.St) : Own → Own
  | .fnp φ m => .fnp (capφ K Γ σ φ) (capφ_mono m)
  | o => o
def capA (K : PySem.W.Frag) (Γ : List Slot) (σ : L2.St) : Arg → Arg
  | .fd o => .fd (capO K Γ σ o)
  | a => a
def capS (Γ : List Slot) (j : Nat) : Slot := match Γ[j]? with
  | some (.fr t x) => .fr t x
  | some (.fd o) => .fd o
  | _ => .un
structure Base2 (X : Cx) (s : Shared) (H : Hp) (B : Heap) : Prop where
  sub : ∀ b o, X.base.get? b = some o → B.get? b = some o
  cel : ∀ y c, X.env.cells.lookup y = some c → ∃ o, s.heap.get? c = some o ∧ B.get? c = some o
  kin : X.K.In B
  ns : B.Ns mainGlobals X.mg
section
variable {X : Cx} {pins : List (Addr × Obj)} {σ : L2.St} {H : Hp} {s : Shared} {N ps fr : List Str} {js : List Nat} {k : Nat} {sp : Hp → Sp} {Γ1 : List Slot}
def φFn (name q : Str) (params : Arguments) (body : List Stmt) (scope : Scope) (cl : List (Str × Addr)) : Hp → V → Prop := fun G v => ∃ f c, v = .ref f ∧ G f = some (FnO f ⟨name, q, params, body, scope, cl, c⟩) ∧ G c = some (CodeO c q)
end
theorem FunW.of {K : PySem.W.Frag} {x qual : Str} {st : Stmt} {f : Addr} {fd : FuncData} (F : Fun K x qual st f fd) : FunW K x qual st f fd := by
  obtain ⟨a, b, c, d, e, g, h, i, j, k, l, m⟩ := F.ex
  exact ⟨⟨a, b, .none, c, d, e, g, h, i, j, k, l, m⟩, F.kp⟩
section
variable {P : Program} {w : World} {K : PySem.W.Frag} {mg : Str → Option Value} {base : Heap}
end
structure ClS (P : Program) (w : World) (K : PySem.W.Frag) (mg : Str → Option Value) (k : Nat) (n : Str) (ps : List Str) (sp : Heap → Sp) : Prop where
  ex : ∃ (f : Addr) (fd : FuncData), (∀ base : Heap, K.In base → base.Ns mainGlobals mg → FnG P w K mg base k f fd ps (sp base)) ∧ mg n = some (.ref f) ∧ PySem.W.keepIn K (.ref f) = true ∧ Binds K fd ps []
structure Tbl (base : Heap) (mg : Str → Option Value) (fd : FuncData) (nm : Nat → Nat → Str) : Prop where
  ex : ∃ c P, fd.code = .ref c ∧ TabB base mg c P ∧ (P, nm) ∈ Tb0.ts ∧ ∀ p ∈ Tb0.ts, p.1 = P → p.2 = nm
section
variable {X : Cx} {f : Addr} {fd : FuncData} {ps : List Str} {sp : Heap → Sp} {k : Nat} {n : Str} {p pos : Pos} {e : Expr} {es : List Expr} {ta : TA}
end
def spV1 (K : PySem.W.Frag) (a t : Ty) (ok : a.den → Prop) (f : a.den → t.den) (G : Hp) : Sp := fun vs H Q E => ∃ x, ok x ∧ PmG K G [.fr a x] (.fr t (f x)) vs H Q E
def spV2 (K : PySem.W.Frag) (a b t : Ty) (ok : a.den → b.den → Prop) (f : a.den → b.den → t.den) (G : Hp) : Sp := fun vs H Q E => ∃ x y, ok x y ∧ PmG K G [.fr a x, .fr b y] (.fr t (f x y)) vs H Q E
end Dn
set_option Elab.async false
set_option linter.all false
set_option maxRecDepth 100000
set_option maxHeartbeats 1000000
namespace Dn
open PySem PySem.Spec PyProof.Rows L2 TL LamX NdefX
variable [Tb0]
section
variable {X : Cx} {ρ : Type} {R : RI ρ}
def tNdefV (P : Addr) (nm : Nat → Nat → Str) (pos : Pos) (i : Nat) (mk : Addr → Addr → HO) : TS := fun D σ H => ∃ ps : Array Value, H P = some (.tbl ps) ∧ TriplesOk ps.toList ∧ (∀ (pos : Pos) (cv : Value), codeAmong pos ps.toList = some cv → ∃ c, cv = .ref c ∧ H c = some (CodeO c (nm pos.line pos.col))) ∧
  (∀ f c, codeAmong pos ps.toList = some (.ref c) → H f = none → D.nx (σ.set i (some (.ref f))) (upd H f (mk f c))) ∧
  (∀ f c, H c = none → H f = none → f ≠ c → TriplesOk (ps ++ #[rawInt pos.line, rawInt pos.col, .ref c]).toList → (∀ (p' : Pos) (cv : Value), codeAmong p' (ps ++ #[rawInt pos.line, rawInt pos.col, .ref c]).toList = some cv → codeAmong p' ps.toList = some cv ∨ (cv = .ref c ∧ pos.line = p'.line ∧ pos.col = p'.col)) →
    D.nx (σ.set i (some (.ref f))) (upd (upd (upd H P (.tbl (ps ++ #[rawInt pos.line, rawInt pos.col, .ref c]))) c (CodeO c (nm pos.line pos.col))) f (mk f c)))
end
end Dn
set_option Elab.async false
set_option linter.all false
set_option maxRecDepth 100000
set_option maxHeartbeats 4000000
namespace Tz.Nn
open PySem PySem.Spec PyProof.Rows L2
abbrev TK (P : Program) (w : World) : HeapKind P w NestedKey := nestedKind P w
abbrev thash (P : Program) (w : World) (k : NestedKey) : Int := k.hash w
abbrev IsT (P : Program) (w : World) (h : Heap) (k : NestedKey) (a : Addr) : Prop := NestedIs h k (.ref a) ∧ k.depth ≤ 8
section
variable {P : Program} {w : World} {A : Around} {E : Value → Shared → Prop} {s : Shared}
mutual
theorem ofA_key : ∀ (k : NestedKey) (v : Value) (n : Nat) (s : Shared), NestedIs s.heap k v → k.depth ≤ n → ∀ (A : Around) (E : Value → Shared → Prop) (Q : Bool → Shared → Prop), Q false s → wpAny (model P w) A (ofAClassStatement n v) Q E s
  | .none, _, n, s, x, _, A, E, Q, h => by cases x; cases n <;> exact wpAny_pure h
  | .num i, _, n, s, x, _, A, E, Q, h => by cases x <;> cases n <;> exact wpAny_pure h
  | .text y, _, n, s, x, _, A, E, Q, h => by cases x; cases n <;> exact wpAny_pure h
  | .tup ks, _, n, s, x, hn, A, E, Q, h => by
    cases x with
    | tup hg hc hd hk =>
      simp only [NestedKey.depth] at hn
      cases n with
      | zero => omega
      | succ n =>
        unfold ofAClassStatement
        refine wpAny_bind (wpAny_typeOf ⟨_, hg, hc⟩ ?_)
        dsimp only
        have e : (("tuple" : String) == "tuple") = true := by decide
        simp only [e, if_true, Bool.not_true, Bool.false_eq_true, if_false]
        try refine wpAny_bind (wpAny_pure ?_)
        try simp only [Bool.not_true, Bool.false_eq_true, if_false]
        show wpAny _ _ (seqItems? (.ref _) >>= _) _ _ s
        refine wpAny_bind (wpAny_seqItems hg hd ?_)
        dsimp only
        refine wpAny_bind ?_
        show wpAny _ _ (forIn _ _ _) _ _ s
        rw [← Array.forIn_toList]
        have all := ofA_keys ks _ n s hk (by omega)
        refine wpAny_forIn_list _ (fun rest r s' => r.1 = none ∧ s' = s ∧ ∀ v ∈ rest, ∀ (A : Around) (E : Value → Shared → Prop) (Q : Bool → Shared → Prop), Q false s → wpAny (model P w) A (ofAClassStatement n v) Q E s) _ ?_ ?_ _ _ ⟨rfl, rfl, all⟩
        · rintro v rest r s' ⟨hr, rfl, hall⟩
          refine wpAny_bind (hall v List.mem_cons_self _ _ _ ?_)
          simp only [Bool.false_eq_true, if_false]
          exact wpAny_pure ⟨rfl, rfl, fun u hu' => hall u (List.mem_cons_of_mem _ hu')⟩
        · rintro ⟨r1, r2⟩ s' ⟨hr, rfl, _⟩
          simp only at hr
          subst hr
          exact wpAny_pure h
theorem ofA_keys : ∀ (ks : List NestedKey) (vs : List Value) (n : Nat) (s : Shared), NestedAll s.heap ks vs → NestedKey.depthAll ks ≤ n → ∀ v ∈ vs, ∀ (A : Around) (E : Value → Shared → Prop) (Q : Bool → Shared → Prop), Q false s → wpAny (model P w) A (ofAClassStatement n v) Q E s
  | [], _, n, s, x, _, v, hv, _, _, _, _ => by cases x; cases hv
  | k :: ks, _, n, s, x, hn, v, hv, A, E, Q, h => by
    cases x with
    | cons x1 x2 =>
      simp only [NestedKey.depthAll] at hn
      rcases List.mem_cons.mp hv with e | hv
      · rw [e]; exact ofA_key k _ n s x1 (by omega) A E Q h
      · exact ofA_keys ks _ n s x2 (by omega) v hv A E Q h
end
mutual
theorem hashBy_key : ∀ (k : NestedKey) (v : Value) (n : Nat) (s : Shared), NestedIs s.heap k v → ∀ (A : Around) (E : Value → Shared → Prop) (Q : Bool → Shared → Prop), (∀ c, Q c s) → wpAny (model P w) A (hashByValue n v) Q E s
  | .none, _, n, s, x, A, E, Q, h => by cases x; cases n <;> exact wpAny_pure (h _)
  | .num i, _, n, s, x, A, E, Q, h => by cases x <;> cases n <;> exact wpAny_pure (h _)
  | .text y, _, n, s, x, A, E, Q, h => by cases x; cases n <;> exact wpAny_pure (h _)
  | .tup ks, _, n, s, x, A, E, Q, h => by
    cases x with
    | tup hg hc hd hk =>
      cases n with
      | zero => exact wpAny_pure (h _)
      | succ n =>
        unfold hashByValue
        refine wpAny_bind (wpAny_specialOf ⟨_, hg, hc⟩ F.slot_tuple_hash.lookup ?_)
        show wpAny _ _ (seqItems? (.ref _) >>= _) _ _ s
        refine wpAny_bind (wpAny_seqItems hg hd ?_)
        refine wpAny_bind ?_
        show wpAny _ _ (forIn _ _ _) _ _ s
        rw [← Array.forIn_toList]
        have all := hashBy_keys ks _ n s hk
        refine wpAny_forIn_list _ (fun rest r s' => r.1 = none ∧ s' = s ∧ ∀ v ∈ rest, ∀ (A : Around) (E : Value → Shared → Prop) (Q : Bool → Shared → Prop), (∀ c, Q c s) → wpAny (model P w) A (hashByValue n v) Q E s) _ ?_ ?_ _ _ ⟨rfl, rfl, all⟩
        · rintro v rest r s' ⟨hr, rfl, hall⟩
          refine wpAny_bind (hall v List.mem_cons_self _ _ _ fun cc => ?_)
          cases cc with
          | true =>
            simp only [Bool.not_true, Bool.false_eq_true, if_false]
            exact wpAny_pure ⟨rfl, rfl, fun u hu' => hall u (List.mem_cons_of_mem _ hu')⟩
          | false =>
            simp only [Bool.not_false, if_true]
            exact wpAny_pure (wpAny_pure (h false))
        · rintro ⟨r1, r2⟩ s' ⟨hr, rfl, _⟩
          simp only at hr
          subst hr
          exact wpAny_pure (h true)
theorem hashBy_keys : ∀ (ks : List NestedKey) (vs : List Value) (n : Nat) (s : Shared), NestedAll s.heap ks vs → ∀ v ∈ vs, ∀ (A : Around) (E : Value → Shared → Prop) (Q : Bool → Shared → Prop), (∀ c, Q c s) → wpAny (model P w) A (hashByValue n v) Q E s
  | [], _, n, s, x, v, hv, _, _, _, _ => by cases x; cases hv
  | k :: ks, _, n, s, x, v, hv, A, E, Q, h => by
    cases x with
    | cons x1 x2 =>
      rcases List.mem_cons.mp hv with e | hv
      · rw [e]; exact hashBy_key k _ n s x1 A E Q h
      · exact hashBy_keys ks _ n s x2 v hv A E Q h
end
theorem ofAClass_tup {k : NestedKey} {b : Addr} {Q : Bool → Shared → Prop} (hk : IsT P w s.heap k b) (h : Q false s) : wpAny (model P w) A (ofAClassStatement 8 (.ref b)) Q E s := ofA_key k _ 8 s hk.1 hk.2 A E Q h
theorem hashBy_tup {k : NestedKey} {b : Addr} {Q : Bool → Shared → Prop} (hk : IsT P w s.heap k b) (h : ∀ c, Q c s) : wpAny (model P w) A (hashByValue 8 (.ref b)) Q E s := hashBy_key k _ 8 s hk.1 A E Q h
theorem seen_tup {k : NestedKey} {b : Addr} {Q : Bool → Shared → Prop} (hk : IsT P w s.heap k b) {ys : List Value} (hy : ∀ y ∈ ys, ∃ k' c, y = Value.ref c ∧ IsT P w s.heap k' c) (h : Q false s) :
    wpAny (model P w) A (searchCouldBeSeen (.ref b) ys) Q E s := by
  unfold searchCouldBeSeen
  refine wpAny_bind ?_
  refine wpAny_forIn_list _ (fun rest r s' => r.1 = none ∧ s' = s ∧ ∀ y ∈ rest, ∃ k' c, y = Value.ref c ∧ IsT P w s.heap k' c) _ ?_ ?_ _ _ ⟨rfl, rfl, hy⟩
  · rintro v rest r s' ⟨hr, rfl, hall⟩
    obtain ⟨k', c, rfl, hc⟩ := hall v List.mem_cons_self
    have rest' : ∀ y ∈ rest, ∃ k' c, y = Value.ref c ∧ IsT P w s'.heap k' c := fun u hu' => hall u (List.mem_cons_of_mem _ hu')
    dsimp only
    by_cases hv : (b == c || (carriedByValue (.ref b) && carriedByValue (.ref c))) = true
    · refine wp_if_pos hv ?_
      exact wpAny_pure ⟨rfl, rfl, rest'⟩
    · refine wp_if_neg hv ?_
      refine wpAny_bind (quiet_key _ _ 8 _ hk.1 hk.2 _ _ _ ?_)
      simp only [Bool.not_true, Bool.false_eq_true, if_false]
      refine wpAny_bind (quiet_key _ _ 8 _ hc.1 hc.2 _ _ _ ?_)
      simp only [Bool.not_true, Bool.false_eq_true, if_false]
      refine wpAny_bind (ofAClass_tup hk ?_)
      simp only [Bool.false_eq_true, if_false]
      refine wpAny_bind (ofAClass_tup hc ?_)
      simp only [Bool.false_eq_true, if_false]
      exact wpAny_pure ⟨rfl, rfl, rest'⟩
  · rintro ⟨r1, r2⟩ s' ⟨hr, rfl, _⟩
    simp only at hr
    subst hr
    exact wpAny_pure h
def rowsOf (P : Program) (w : World) (L : List (Addr × NestedKey)) : List (Int × Value) := L.map fun p => (thash P w p.2, Value.ref p.1)
structure SetTR (P : Program) (w : World) (h : Heap) (a : Addr) (L : List (Addr × NestedKey)) (es : Array (Int × Value)) (ep : Nat) (t : SetTable) : Prop where
  ob : ∃ o, h.get? a = some o ∧ o.ExactSet ∧ o.data = .set es ep t
  rows : es.toList = rowsOf P w L
  tab : TabOk t (L.map fun p => thash P w p.2)
  nd : (L.map (·.2)).Nodup
  tup : ∀ p ∈ L, IsT P w h p.2 p.1
  plain : True
  led : w.params.followText "set-order" = true ∨ t.led = true
  room : L.length * 5 < t.mask * 3
  few : L.length < 4001
variable {a : Addr} {L : List (Addr × NestedKey)} {es : Array (Int × Value)} {ep : Nat} {t : SetTable}
theorem SetTR.size (R : SetTR P w s.heap a L es ep t) : es.size = L.length := by
  have h := congrArg List.length R.rows
  unfold rowsOf at h
  rw [Array.length_toList, List.length_map] at h
  exact h
theorem SetTR.fits (R : SetTR P w s.heap a L es ep t) : t.fits es.size = true := by
  have h1 := R.tab.sz
  rw [List.length_map] at h1
  have h2 := R.size
  have h3 := R.room
  unfold SetTable.fits SetTable.fill
  rw [R.tab.dm, Bool.and_eq_true, beq_iff_eq, decide_eq_true_eq]
  show t.place.size = es.size ∧ t.place.size + 0 ≤ t.mask
  omega
theorem SetTR.entry (R : SetTR P w s.heap a L es ep t) {i : Nat} {p : Addr × NestedKey} (h : L[i]? = some p) : es[i]? = some (thash P w p.2, Value.ref p.1) := by
  rw [← Array.getElem?_toList, R.rows]
  unfold rowsOf
  rw [List.getElem?_map, h] <;> rfl
theorem SetTR.gw (R : SetTR P w s.heap a L es ep t) : ¬ t.gaveWay = true := by
  unfold SetTable.gaveWay
  rw [mask_odd R.tab.mok]
  decide
theorem sameMem (t : SetTable) : t.sameMemory t.moves t.mask = some true := by
  unfold SetTable.sameMemory
  rw [if_pos (beq_self_eq_true _)]
theorem search_from (R : SetTR P w s.heap a L es ep t) {x : Addr} {k : NestedKey} (hx : IsT P w s.heap k x) (hu : A.units + 8 < cLine) {K : Nat} (hKf : K < 10 * SetTable.turns t.mask)
    (hK : way t.mask (thash P w k) K ∉ t.place.toList) (hKb : ∀ c, c < K → way t.mask (thash P w k) c ∈ t.place.toList) {Q : SetFound → Shared → Prop}
    (hin : k ∈ L.map (·.2) → Q (.there none) s) (hout : k ∉ L.map (·.2) → Q (.free (way t.mask (thash P w k) K) false) s) :
    ∀ (f c : Nat) (stand : Option SetTable.Probe), stand.getD (t.probeStart (thash P w k)) = nth t.mask (runAt t.mask (SetTable.bits (thash P w k) % (t.mask + 1)) (SetTable.bits (thash P w k))) c → c ≤ K → K - c < f →
      (∀ (i : Nat) p, L[i]? = some p → p.2 = k → ∃ c', c ≤ c' ∧ c' < K ∧ t.place.toList[i]? = some (way t.mask (thash P w k) c')) →
      wpAny (model P w) A (setSearchFrom a (.ref x) (thash P w k) true f stand) Q E s
  | 0, c, stand, _, _, hf, _ => absurd hf (Nat.not_lt_zero _)
  | f + 1, c, stand, hst, hc, hf, hre => by
    obtain ⟨o, ho, hex, hd⟩ := R.ob
    rw [setSearchFrom_succ]
    refine wpAny_bind (wpAny_setState_of ho hd R.fits ?_)
    dsimp only
    refine wp_if_neg R.gw ?_
    try refine wpAny_bind (wpAny_pure ?_)
    have hnd : (nth t.mask (runAt t.mask (SetTable.bits (thash P w k) % (t.mask + 1)) (SetTable.bits (thash P w k))) c).dummy = none := by
      have key : ∀ (n : Nat) (p : SetTable.Probe), p.dummy = none → (nth t.mask p n).dummy = none := by
        intro n
        induction n with
        | zero => intro p h; exact h
        | succ n ih =>
          intro p h
          refine ih (adv t.mask p) ?_
          unfold adv
          split <;> exact h
      exact key c _ rfl
    have sh : ∀ q, nth t.mask (nth t.mask (runAt t.mask (SetTable.bits (thash P w k) % (t.mask + 1)) (SetTable.bits (thash P w k))) c) q = nth t.mask (runAt t.mask (SetTable.bits (thash P w k) % (t.mask + 1)) (SetTable.bits (thash P w k))) (c + q) := fun q => (nth_add t.mask c _ q).symm
    have e1 : ∀ q, (nth t.mask (nth t.mask (runAt t.mask (SetTable.bits (thash P w k) % (t.mask + 1)) (SetTable.bits (thash P w k))) c) q).j = way t.mask (thash P w k) (c + q) := fun q => congrArg SetTable.Probe.j (sh q)
    have spec := go_spec t R.tab.ris R.tab.dm (fun i => (es[i]?.map (·.1)).getD 0) (thash P w k) (10 * SetTable.turns t.mask) (K - c) _ hnd (by omega)
      (fun q hq => by rw [e1]; exact hKb (c + q) (by omega)) (by rw [e1, show c + (K - c) = K by omega]; exact hK)
    have hashAt : ∀ (i : Nat) p, L[i]? = some p → (fun i => (es[i]?.map (·.1)).getD 0) i = thash P w p.2 := fun i p hp => by
      show (es[i]?.map (·.1)).getD 0 = _
      rw [R.entry hp] <;> rfl
    rcases spec with ⟨q, i, hq, hi, hh, hno, hpr⟩ | ⟨hno, hpr⟩
    · -- a candidate
      have hpr' : t.probe (fun i => (es[i]?.map (·.1)).getD 0) (thash P w k) (stand.getD (t.probeStart (thash P w k))) = some (.candidate (way t.mask (thash P w k) (c + q)) i (nth t.mask (runAt t.mask (SetTable.bits (thash P w k) % (t.mask + 1)) (SetTable.bits (thash P w k))) (c + (q + 1)))) := by
        rw [hst, ← e1, ← sh]
        exact hpr
      rw [hpr']
      dsimp only
      rw [e1] at hi
      -- the entry
      have hil : i < L.length := by
        have h1 : i < t.place.toList.length := (List.getElem?_eq_some_iff.mp hi).1
        have h2 := R.tab.sz
        rw [List.length_map] at h2
        rw [Array.length_toList] at h1
        omega
      have hp : L[i]? = some L[i] := List.getElem?_eq_getElem hil
      generalize hpe : L[i] = p at hp
      have hmem : p ∈ L := List.mem_of_getElem? hp
      have hpt := R.tup p hmem
      have rest : wpAny (model P w) A (searchRest a (.ref x) (thash P w k) true f es t (way t.mask (thash P w k) (c + q)) i (nth t.mask (runAt t.mask (SetTable.bits (thash P w k) % (t.mask + 1)) (SetTable.bits (thash P w k))) (c + (q + 1)))) Q E s := by
        unfold searchRest
        rw [R.entry hp]
        dsimp only
        refine wpAny_bind (wpAny_holding ((nestedKind P w).eqBool hu hpt hx ?_))
        refine wpAny_bind (wpAny_setState_of ho hd R.fits ?_)
        dsimp only
        by_cases hkk : p.2 = k
        · refine wp_if_pos (by simp [hkk]) ?_
          refine wpAny_pure (hin ?_)
          exact List.mem_map.mpr ⟨p, hmem, hkk⟩
        · refine wp_if_neg (by simp [hkk]) ?_
          try refine wpAny_bind (wpAny_pure ?_)
          rw [sameMem]
          dsimp only
          have hsl : t.slot (way t.mask (thash P w k) (c + q)) = .live i := slot_live R.tab.ris hi
          simp only [if_true, hsl, R.entry hp]
          refine wpAny_bind (wpAny_isSame_ref_self (wpAny_bind (wpAny_pure ?_)))
          simp only [if_true]
          refine wp_if_neg (by simp [hkk]) ?_
          refine search_from R hx hu hKf hK hKb hin hout f (c + (q + 1)) _ rfl (by omega) (by omega) fun i0 p0 h0 hk0 => ?_
          obtain ⟨c', a1, a2, a3⟩ := hre i0 p0 h0 hk0
          refine ⟨c', ?_, a2, a3⟩
          -- it isn't passed
          rcases Nat.lt_or_ge c' (c + q) with z | z
          · exfalso
            refine hno (c' - c) i0 (by omega) (by rw [e1, show c + (c' - c) = c' by omega]; exact a3) ?_
            exact (hashAt i0 p0 h0).trans (congrArg (thash P w) hk0)
          · rcases Nat.lt_or_ge (c + q) c' with y | y
            · omega
            · exfalso
              have ec : c' = c + q := Nat.le_antisymm y z
              rw [ec] at a3
              have s0 := slot_live R.tab.ris a3
              rw [hsl] at s0
              injection s0 with s0
              rw [← s0, hp] at h0
              exact hkk ((congrArg Prod.snd (Option.some.inj h0)).trans hk0)
      by_cases hl : t.led = true
      · refine wp_if_neg (by simp [hl]) ?_
        try refine wpAny_bind (wpAny_pure ?_)
        exact rest
      · refine wp_if_pos (by simp [hl]) ?_
        refine wpAny_bind (seen_tup hx (fun y hy => ?_) ?_)
        · obtain ⟨e, he, ee⟩ := List.mem_map.mp hy
          have he1 : e ∈ es ∧ e.1 = thash P w k := by simpa using he
          have he2 : e ∈ es.toList := by simpa using he1.1
          rw [R.rows] at he2
          obtain ⟨p2, hp2, e2⟩ := List.mem_map.mp he2
          refine ⟨p2.2, p2.1, ?_, R.tup p2 hp2⟩
          rw [← ee, ← e2]
        · refine wp_if_neg (by decide) ?_
          try refine wpAny_bind (wpAny_pure ?_)
          exact rest
    · -- the empty slot
      have hpr' : t.probe (fun i => (es[i]?.map (·.1)).getD 0) (thash P w k) (stand.getD (t.probeStart (thash P w k))) = some (.empty (way t.mask (thash P w k) K) none) := by
        have e2 : way t.mask (thash P w k) K = (nth t.mask (nth t.mask (runAt t.mask (SetTable.bits (thash P w k) % (t.mask + 1)) (SetTable.bits (thash P w k))) c) (K - c)).j := by
          rw [e1, show c + (K - c) = K by omega]
        rw [hst, e2]
        exact hpr
      rw [hpr']
      dsimp only
      refine wpAny_pure (hout fun hm => ?_)
      obtain ⟨p0, h0, hk0⟩ := List.mem_map.mp hm
      obtain ⟨i0, hi0, e0⟩ := List.getElem_of_mem h0
      have h00 : L[i0]? = some p0 := by rw [List.getElem?_eq_getElem hi0, e0]
      obtain ⟨c', a1, a2, a3⟩ := hre i0 p0 h00 hk0
      refine hno (c' - c) i0 (by omega) (by rw [e1, show c + (c' - c) = c' by omega]; exact a3) ?_
      exact (hashAt i0 p0 h00).trans (congrArg (thash P w) hk0)
theorem search_at (R : SetTR P w s.heap a L es ep t) {x : Addr} {k : NestedKey} (hx : IsT P w s.heap k x) (hu : A.units + 8 < cLine) {Q : SetFound → Shared → Prop}
    (hin : k ∈ L.map (·.2) → Q (.there none) s)
    (hout : ∀ K, k ∉ L.map (·.2) → way t.mask (thash P w k) K ∉ t.place.toList → (∀ c, c < K → way t.mask (thash P w k) c ∈ t.place.toList) → Q (.free (way t.mask (thash P w k) K) false) s) :
    wpAny (model P w) A (setSearch a (.ref x) (thash P w k) true) Q E s := by
  have hroom := R.room
  obtain ⟨K, hKf, hK, hKb⟩ := R.tab.first (by rw [List.length_map]; omega) (thash P w k)
  have hbig : K < 100000 := by
    have : 10 * SetTable.turns t.mask ≤ 82060 := by
      unfold SetTable.turns
      rcases R.tab.mok with e | e | e | e | e | e <;> omega
    omega
  unfold setSearch
  refine search_from R hx hu hKf hK hKb hin (fun hn => hout K hn hK hKb) 100000 0 none rfl (Nat.zero_le _) (by omega) fun i p hp hk => ?_
  have hi : (L.map fun p => thash P w p.2)[i]? = some (thash P w k) := by rw [List.getElem?_map, hp, ← hk] <;> rfl
  have hil : i < t.place.toList.length := by
    have h1 : i < L.length := (List.getElem?_eq_some_iff.mp hp).1
    have h2 := R.tab.sz
    rw [List.length_map] at h2
    rw [Array.length_toList]
    omega
  have hj := List.getElem?_eq_getElem hil
  obtain ⟨c, hc, e⟩ := R.tab.before hK hi hj
  exact ⟨c, Nat.zero_le _, hc, by rw [hj, e]⟩
end
end Tz.Nn
namespace Tz.Nn
open PySem PySem.Spec PyProof.Rows L2
theorem setAddHashedIn_succ (a : Addr) (x : Value) (h : Int) (fuel : Nat) : setAddHashedIn a x h (fuel + 1) = (do
    let (es₀, _, t₀) ← setState a
    if byScan x es₀ then
      match ← setAddByScan a x h es₀ t₀ with
      | some added => return added
      | none => return ← setAddHashedIn a x h fuel
    let .free slot wasDummy ← setSearch a x h (adding := true) | return false
    let (es, _, t) ← setState a
    let (t, p) := t.put slot
    let byValue ← if t.plain then hashByValue 8 x else pure true
    let t := if byValue then t else { t with plain := false }
    storeSet a (SetTable.insertAt es p (h, x)) t
    if !wasDummy && t.tooFull then setRelay a (SetTable.grown (es.size + 1))
    return true) := by rfl
theorem setRelay_eq (a : Addr) (wanted : Nat) : setRelay a wanted = (do
    let (es, _, t) ← setState a
    if SetTable.sizeAbove wanted > sizeLine then unsupported "set:memory"
    let (es, t) ← (do
      let some (t, order) := t.relaid (es.map (·.1)) wanted | unsupported "internal:set-table-without-room"
      let es' := order.filterMap (es[·]?)
      if es'.size != es.size then unsupported "internal:set-table-lost-an-element"
      pure (es', t) : Sem (Array (Int × Value) × SetTable))
    storeSet a es t) := by rfl
section
variable {P : Program} {w : World} {A : Around} {E : Value → Shared → Prop} {s : Shared}
theorem isT_same {h h' : Heap} {k : NestedKey} {a b : Addr} {o : Obj} {es : Array (Int × Value)} {ep : Nat} {t : SetTable} (hb : IsT P w h k b) (ho : h.get? a = some o) (hd : o.data = .set es ep t) (hs : Heap.SameBut a h h') : IsT P w h' k b := by
  refine ⟨NestedIs.at (fun c ob vs n hb' hc' => (hs.2 c fun e => ?_).trans hb') k _ hb.1, hb.2⟩
  subst e
  rw [ho] at hb'
  cases hb'
  rw [hd] at hc'
  cases hc'
theorem rows_put (L : List (Addr × NestedKey)) (p : Nat) (x : Addr) (k : NestedKey) : rowsOf P w (L.take p ++ (x, k) :: L.drop p) = (rowsOf P w L).take p ++ (thash P w k, Value.ref x) :: (rowsOf P w L).drop p := by
  unfold rowsOf
  rw [List.map_append, List.map_cons, List.map_take, List.map_drop]
theorem put_perm {α : Type} (L : List α) (p : Nat) (x : α) : (L.take p ++ x :: L.drop p).Perm (x :: L) := by
  have h : (L.take p ++ x :: L.drop p).Perm (x :: (L.take p ++ L.drop p)) := List.perm_middle
  rw [List.take_append_drop] at h
  exact h
theorem order_rows (L : List (Addr × NestedKey)) (es : Array (Int × Value)) (order : Array Nat) (hr : es.toList = rowsOf P w L) (hp : order.toList.Perm (List.range L.length)) :
    ∃ L2, (order.filterMap (es[·]?)).toList = rowsOf P w L2 ∧ L2.Perm L ∧ (L2.map fun p => thash P w p.2) = order.toList.map fun i => (es.map (·.1)).getD i 0 := by
  have hsz : es.size = L.length := by
    have h := congrArg List.length hr
    unfold rowsOf at h
    rw [Array.length_toList, List.length_map] at h
    exact h
  have ent : ∀ i (h : i < L.length), es[i]? = some (thash P w (L[i]).2, Value.ref (L[i]).1) := fun i h => by
    rw [← Array.getElem?_toList, hr]
    unfold rowsOf
    rw [List.getElem?_map, List.getElem?_eq_getElem h] <;> rfl
  have key : ∀ l : List Nat, (∀ i ∈ l, i < L.length) → ∃ L2 : List (Addr × NestedKey), l.filterMap (fun i => es[i]?) = rowsOf P w L2 ∧ L2 = l.filterMap (fun i => L[i]?) ∧ (L2.map fun p => thash P w p.2) = l.map fun i => (es.map (·.1)).getD i 0 := by
    intro l
    induction l with
    | nil => intro _; exact ⟨[], rfl, rfl, rfl⟩
    | cons i l ih =>
      intro hl
      have hi := hl i List.mem_cons_self
      obtain ⟨L2, e1, e2, e3⟩ := ih fun j hj => hl j (List.mem_cons_of_mem _ hj)
      refine ⟨L[i] :: L2, ?_, ?_, ?_⟩
      · rw [List.filterMap_cons_some (ent i hi), e1] <;> rfl
      · rw [List.filterMap_cons_some (List.getElem?_eq_getElem hi), e2]
      · rw [List.map_cons, List.map_cons, e3]
        have hi2 : i < (es.map (·.1)).size := by rw [Array.size_map, hsz]; exact hi
        have e4 : (es.map (·.1)).getD i 0 = thash P w (L[i]).2 := by
          have e5 : (es.map (·.1))[i]? = some (thash P w (L[i]).2) := by rw [Array.getElem?_map, ent i hi] <;> rfl
          simp [Array.getD_eq_getD_getElem?, e5]
        rw [e4]
  obtain ⟨L2, e1, e2, e3⟩ := key order.toList fun i hi => List.mem_range.mp (hp.mem_iff.mp hi)
  refine ⟨L2, by first | (rw [Array.toList_filterMap]; exact e1) | simpa using e1, ?_, e3⟩
  have h1 : L2.Perm ((List.range L.length).filterMap fun i => L[i]?) := by
    rw [e2]
    exact hp.filterMap _
  have h2 : (List.range L.length).filterMap (fun i => L[i]?) = L := by
    have key2 : ∀ n, n ≤ L.length → (List.range n).filterMap (fun i => L[i]?) = L.take n := by
      intro n
      induction n with
      | zero => intro _; rfl
      | succ n ih =>
        intro hn
        have hlt : n < L.length := hn
        rw [List.range_succ, List.filterMap_append, ih (Nat.le_of_lt hlt), List.take_succ, List.getElem?_eq_getElem hlt]
        rw [List.filterMap_cons_some (List.getElem?_eq_getElem hlt)] <;> rfl
    rw [key2 L.length (Nat.le_refl _), List.take_length]
  rw [h2] at h1
  exact h1
variable {a : Addr} {L : List (Addr × NestedKey)} {es : Array (Int × Value)} {ep : Nat} {t : SetTable}
theorem relay_at {o : Obj} (ho : s.heap.get? a = some o) (hex : o.ExactSet) (hd : o.data = .set es ep t) (hrows : es.toList = rowsOf P w L) (hsz : t.place.size = es.size) (hdm : t.dummies = #[]) (hfl : es.size ≤ t.mask)
    (nd : (L.map (·.2)).Nodup) (tup : ∀ p ∈ L, IsT P w s.heap p.2 p.1) (pl : True) (ld : w.params.followText "set-order" = true ∨ t.led = true) (few : L.length < 4001) {wanted M : Nat}
    (hw : SetTable.sizeAbove wanted - 1 = M) (hM : MaskOk M) (hw2 : SetTable.sizeAbove wanted ≤ 8192) (hn : L.length * 5 < M * 3) {Q : Unit → Shared → Prop}
    (hQ : ∀ h' L' es' ep' t', Heap.SameBut a s.heap h' → SetTR P w h' a L' es' ep' t' → L'.Perm L → Q () { s with heap := h' }) : wpAny (model P w) A (setRelay a wanted) Q E s := by
  have hsl : es.size = L.length := by
    have h := congrArg List.length hrows
    unfold rowsOf at h
    rw [Array.length_toList, List.length_map] at h
    exact h
  have hfits : t.fits es.size = true := by
    unfold SetTable.fits SetTable.fill
    rw [hdm, Bool.and_eq_true, beq_iff_eq, decide_eq_true_eq]
    show t.place.size = es.size ∧ t.place.size + 0 ≤ t.mask
    omega
  obtain ⟨t', order, e, hp, T, em, el, ep', ed⟩ := relaid_ok t (hs := es.map (·.1)) (wanted := wanted) hw hM (by rw [Array.size_map, hsl]; omega)
  rw [Array.size_map, hsl] at hp
  obtain ⟨L2, r1, r2, r3⟩ := order_rows L es order hrows hp
  rw [← r3] at T
  have hs2 : (order.filterMap (es[·]?)).size = es.size := by
    have h := congrArg List.length r1
    unfold rowsOf at h
    rw [Array.length_toList, List.length_map, r2.length_eq] at h
    rw [h, hsl]
  rw [setRelay_eq]
  refine wpAny_bind (wpAny_setState_of ho hd hfits ?_)
  dsimp only
  refine wp_if_neg (by rw [sizeLine_eq]; omega) ?_
  try refine wpAny_bind (wpAny_pure ?_)
  rw [e]
  dsimp only
  refine wpAny_bind ?_
  refine wp_if_neg (by rw [hs2]; simp) ?_
  try refine wpAny_bind (wpAny_pure ?_)
  refine wpAny_pure ?_
  dsimp only
  refine wpAny_storeSet_of ho hd ?_ (by rw [hs2, hsl, sizeLine_eq]; omega)
  have sb : Heap.SameBut a s.heap (s.heap.update a (Obj.putSet (order.filterMap (es[·]?)) t')) := Heap.SameBut.update ..
  refine hQ _ L2 (order.filterMap (es[·]?)) (ep + 1) t' sb ?_ r2
  refine ⟨⟨_, store_at ho hd, ⟨hex.1, hex.2.1, hex.2.2⟩, rfl⟩, r1, T, ?_, fun p hpm => isT_same (tup p (r2.mem_iff.mp hpm)) ho hd sb, trivial, by rw [el]; exact ld, ?_, by rw [r2.length_eq]; exact few⟩
  · exact (r2.map (·.2)).nodup_iff.mpr nd
  · rw [r2.length_eq, em]
    exact hn
theorem byv {x : Addr} {k : NestedKey} (hx : IsT P w s.heap k x) {b : Bool} {K : Bool → Sem Bool} {Q : Bool → Shared → Prop} (h : ∀ c, wpAny (model P w) A (K c) Q E s) : wpAny (model P w) A (if b = true then hashByValue 8 (.ref x) >>= K else pure true >>= K) Q E s := by
  cases b with
  | true => exact wp_if_pos rfl (wpAny_bind (hashBy_tup hx h))
  | false => exact wp_if_neg (by decide) (wpAny_bind (wpAny_pure (h true)))
theorem plain_off {t0 : SetTable} {c : Bool} {hs : List Int} {m n : Nat} {l : Bool} (q3 : TabOk t0 hs) (q4 : t0.mask = m) (q5 : t0.led = l) (q9 : t0.fill = n) :
    ∃ t1, (if c = true then t0 else { t0 with plain := false }) = t1 ∧ TabOk t1 hs ∧ t1.mask = m ∧ t1.led = l ∧ t1.fill = n := by
  cases c with
  | true => exact ⟨t0, rfl, q3, q4, q5, q9⟩
  | false => exact ⟨{ t0 with plain := false }, rfl, ⟨q3.ris, q3.dm, q3.sz, q3.mok, q3.bd, q3.reach⟩, q4, q5, q9⟩
theorem add_at (R : SetTR P w s.heap a L es ep t) {x : Addr} {k : NestedKey} (hx : IsT P w s.heap k x) (hu : A.units + 8 < cLine) (hfew : k ∉ L.map (·.2) → L.length + 1 < 4001) {Q : Bool → Shared → Prop}
    (hQ : ∀ b h' L' es' ep' t', Heap.SameBut a s.heap h' → SetTR P w h' a L' es' ep' t' → (k ∈ L.map (·.2) → L' = L) → (k ∉ L.map (·.2) → L'.Perm ((x, k) :: L)) → Q b { s with heap := h' }) :
    wpAny (model P w) A (setAddHashed a (.ref x) (thash P w k)) Q E s := by
  obtain ⟨o, ho, hex, hd⟩ := R.ob
  have hsl := R.size
  have hroom := R.room
  unfold setAddHashed
  refine wpAny_holding ?_
  rw [show (100000 : Nat) = 99999 + 1 from rfl, setAddHashedIn_succ]
  refine wpAny_bind (wpAny_setState_of ho hd R.fits ?_)
  dsimp only
  refine wp_if_neg (by simp [byScan, Value.scannable]) ?_
  try refine wpAny_bind (wpAny_pure ?_)
  refine wpAny_bind (search_at R hx hu (fun hm => ?_) fun K hm hK hb => ?_)
  · dsimp only
    exact wpAny_pure (hQ false s.heap L es ep t (Heap.SameBut.refl a s.heap) R (fun _ => rfl) fun z => absurd hm z)
  · dsimp only
    have hfew := hfew hm
    refine wpAny_bind (wpAny_setState_of ho hd R.fits ?_)
    dsimp only
    obtain ⟨q1, q2, q3, q4, q5, q6, q7, q8, q9⟩ := R.tab.put hK hb
    have hp1 : True := trivial
    generalize hpt : t.put (way t.mask (thash P w k) K) = pt at q1 q3 q4 q5 q6 q7 q8 q9 hp1 ⊢
    obtain ⟨t0, p⟩ := pt
    dsimp only at q1 q3 q4 q5 q6 q7 q8 q9 ⊢
    subst q1
    refine byv hx fun c => ?_
    obtain ⟨t1, ht1, q3, q4, q5, q9⟩ := plain_off (c := c) q3 q4 q5 q9
    rw [ht1]
    have hin : (SetTable.insertAt es (SetTable.below t.place (way t.mask (thash P w k) K)) (thash P w k, Value.ref x)).toList = rowsOf P w (L.take (SetTable.below t.place (way t.mask (thash P w k) K)) ++ (x, k) :: L.drop (SetTable.below t.place (way t.mask (thash P w k) K))) := by
      rw [SetTable.toList_insertAt, rows_put, R.rows]
    generalize hpp : SetTable.below t.place (way t.mask (thash P w k) K) = p at q2 q3 hin ⊢
    have pm := put_perm L p (x, k)
    have hlen : (L.take p ++ (x, k) :: L.drop p).length = L.length + 1 := pm.length_eq
    have hhs : (L.take p ++ (x, k) :: L.drop p).map (fun p => thash P w p.2) = (L.map fun p => thash P w p.2).take p ++ thash P w k :: (L.map fun p => thash P w p.2).drop p := by
      rw [List.map_append, List.map_cons, List.map_take, List.map_drop]
    rw [← hhs] at q3
    have nd1 : ((L.take p ++ (x, k) :: L.drop p).map (·.2)).Nodup := by
      refine (pm.map (·.2)).nodup_iff.mpr ?_
      rw [List.map_cons]
      exact List.nodup_cons.mpr ⟨hm, R.nd⟩
    have hes : (SetTable.insertAt es p (thash P w k, Value.ref x)).size = L.length + 1 := by
      have h := congrArg List.length hin
      unfold rowsOf at h
      rw [Array.length_toList, List.length_map, hlen] at h
      exact h
    generalize SetTable.insertAt es p (thash P w k, Value.ref x) = es1 at hin hes ⊢
    generalize L.take p ++ (x, k) :: L.drop p = L1 at pm hlen q3 nd1 hin
    refine wpAny_bind (wpAny_storeSet_of ho hd ?_ (by rw [hes, sizeLine_eq]; omega))
    have sb : Heap.SameBut a s.heap (s.heap.update a (Obj.putSet es1 t1)) := Heap.SameBut.update ..
    have ho1 := store_at (es' := es1) (t' := t1) ho hd
    generalize s.heap.update a (Obj.putSet es1 t1) = h1 at sb ho1 ⊢
    have tup1 : ∀ p ∈ L1, IsT P w h1 p.2 p.1 := fun p hp => by
      rcases List.mem_cons.mp (pm.mem_iff.mp hp) with e | hp
      · rw [e]; exact isT_same hx ho hd sb
      · exact isT_same (R.tup p hp) ho hd sb
    have ld1 : w.params.followText "set-order" = true ∨ t1.led = true := by rw [q5]; exact R.led
    by_cases hf : t1.tooFull = true
    · first
        | (refine wpAny_bind ?_; refine wp_if_pos (by simp [hf]) ?_)
        | (refine wp_if_pos (by simp [hf]) ?_; refine wpAny_bind ?_)
      have hfull : (L.length + 1) * 5 ≥ t1.mask * 3 := by
        have h := hf
        unfold SetTable.tooFull at h
        rw [decide_eq_true_eq, q9, List.length_map] at h
        exact h
      rw [hsl]
      have hsz1 : t1.place.size = es1.size := by
        have h := q3.sz
        rw [List.length_map, hlen] at h
        rw [h, hes]
      have cases2 : (t.mask = 7 ∧ L.length = 4) ∨ (t.mask = 31 ∧ L.length = 18) ∨ (t.mask = 127 ∧ L.length = 76) ∨ (t.mask = 511 ∧ L.length = 306) ∨ (t.mask = 2047 ∧ L.length = 1228) := by
        have hf49 := hfew
        rcases R.tab.mok with e | e | e | e | e | e
        · left; rw [q4, e] at hfull; rw [e] at hroom; exact ⟨e, by omega⟩
        · right; left; rw [q4, e] at hfull; rw [e] at hroom; exact ⟨e, by omega⟩
        · right; right; left; rw [q4, e] at hfull; rw [e] at hroom; exact ⟨e, by omega⟩
        · right; right; right; left; rw [q4, e] at hfull; rw [e] at hroom; exact ⟨e, by omega⟩
        · right; right; right; right; rw [q4, e] at hfull; rw [e] at hroom; exact ⟨e, by omega⟩
        · exfalso; rw [q4, e] at hfull; omega
      have go : ∀ M, SetTable.sizeAbove (SetTable.grown (L.length + 1)) - 1 = M → MaskOk M → SetTable.sizeAbove (SetTable.grown (L.length + 1)) ≤ 8192 → (L.length + 1) * 5 < M * 3 →
          wpAny (model P w) A (setRelay a (SetTable.grown (L.length + 1))) (fun _ s' => wpAny (model P w) A (pure true) Q E s') E { s with heap := h1 } := fun M h1' h2' h3' h4' => by
        refine relay_at (s := { s with heap := h1 }) ho1 ⟨hex.1, hex.2.1, hex.2.2⟩ rfl hin hsz1 q3.dm (by rw [hes, q4]; rcases cases2 with ⟨e, e2⟩ | ⟨e, e2⟩ | ⟨e, e2⟩ | ⟨e, e2⟩ | ⟨e, e2⟩ <;> omega) nd1 tup1 hp1 ld1 (by rw [hlen]; exact hfew) h1' h2' h3' (by rw [hlen]; exact h4') ?_
        intro h2 L2 es2 ep2 t2 sb2 R2 pm2
        refine wpAny_pure (hQ true h2 L2 es2 ep2 t2 (sb.trans sb2) R2 (fun z => absurd z hm) fun _ => pm2.trans pm)
      rcases cases2 with ⟨_, e2⟩ | ⟨_, e2⟩ | ⟨_, e2⟩ | ⟨_, e2⟩ | ⟨_, e2⟩
      · refine go 31 (by rw [e2, size_20]) (.inr (.inl rfl)) (by rw [e2, size_20]; decide) (by omega)
      · refine go 127 (by rw [e2, size_76]) (.inr (.inr (.inl rfl))) (by rw [e2, size_76]; decide) (by omega)
      · refine go 511 (by rw [e2, size_308]) (.inr (.inr (.inr (.inl rfl)))) (by rw [e2, size_308]; decide) (by omega)
      · refine go 2047 (by rw [e2, size_1228]) (.inr (.inr (.inr (.inr (.inl rfl))))) (by rw [e2, size_1228]; decide) (by omega)
      · refine go 8191 (by rw [e2, size_4916]) (.inr (.inr (.inr (.inr (.inr rfl))))) (by rw [e2, size_4916]; decide) (by omega)
    · first
        | refine wp_if_neg (by simp [hf]) ?_
        | (refine wpAny_bind ?_; refine wp_if_neg (by simp [hf]) ?_; refine wpAny_pure ?_)
      refine wpAny_pure (hQ true h1 L1 es1 (ep + 1) t1 sb ⟨⟨_, ho1, ⟨hex.1, hex.2.1, hex.2.2⟩, rfl⟩, hin, q3, nd1, tup1, hp1, ld1, ?_, by rw [hlen]; exact hfew⟩ (fun z => absurd z hm) fun _ => pm)
      have h := hf
      unfold SetTable.tooFull at h
      rw [decide_eq_true_eq, q9, List.length_map] at h
      rw [hlen]
      omega
end
end Tz.Nn
namespace Tz.Nn
open PySem PySem.Spec PyProof.Rows L2
structure Got (ks : List (Addr × NestedKey)) (i : Nat) (L : List (Addr × NestedKey)) : Prop where
  sub : ∀ p ∈ L, p ∈ ks.take i
  all : ∀ p ∈ ks.take i, p.2 ∈ L.map (·.2)
  len : L.length ≤ i
theorem Got.zero (ks : List (Addr × NestedKey)) : Got ks 0 [] := ⟨fun p h => (by cases h), fun p h => (by simp at h), Nat.le_refl _⟩
theorem take_next {α : Type} {l : List α} {i : Nat} {x : α} (h : l[i]? = some x) : l.take (i + 1) = l.take i ++ [x] := by
  rw [List.take_succ, h] <;> rfl
theorem Got.same {ks L : List (Addr × NestedKey)} {i : Nat} {x : Addr × NestedKey} (g : Got ks i L) (h : ks[i]? = some x) (hm : x.2 ∈ L.map (·.2)) : Got ks (i + 1) L := by
  refine ⟨fun p hp => ?_, fun p hp => ?_, Nat.le_succ_of_le g.len⟩
  · rw [take_next h]
    exact List.mem_append_left _ (g.sub p hp)
  · rw [take_next h] at hp
    rcases List.mem_append.mp hp with z | z
    · exact g.all p z
    · rw [List.mem_singleton.mp z]; exact hm
theorem Got.more {ks L L' : List (Addr × NestedKey)} {i : Nat} {x : Addr × NestedKey} (g : Got ks i L) (h : ks[i]? = some x) (pm : L'.Perm (x :: L)) : Got ks (i + 1) L' := by
  refine ⟨fun p hp => ?_, fun p hp => ?_, ?_⟩
  · rw [take_next h]
    rcases List.mem_cons.mp (pm.mem_iff.mp hp) with e | z
    · rw [e]; exact List.mem_append_right _ (List.mem_singleton.mpr rfl)
    · exact List.mem_append_left _ (g.sub p z)
  · rw [(pm.map (·.2)).mem_iff, List.map_cons]
    rw [take_next h] at hp
    rcases List.mem_append.mp hp with z | z
    · exact List.mem_cons_of_mem _ (g.all p z)
    · rw [List.mem_singleton.mp z]; exact List.mem_cons_self
  · rw [pm.length_eq, List.length_cons]
    exact Nat.succ_le_succ g.len
section
variable {P : Program} {w : World} {A : Around} {E : Value → Shared → Prop} {s : Shared}
theorem isT_keep {h h' : Heap} {k : NestedKey} {b : Addr} (x : IsT P w h k b) (hk : ∀ c o, h.get? c = some o → h'.get? c = some o) : IsT P w h' k b := by
  exact ⟨NestedIs.at (fun c ob vs n hb' _ => hk c ob hb') k _ x.1, x.2⟩
theorem SetTR.keep {h h' : Heap} {a : Addr} {L : List (Addr × NestedKey)} {es : Array (Int × Value)} {ep : Nat} {t : SetTable} (R : SetTR P w h a L es ep t) (ha : ∀ o, h.get? a = some o → h'.get? a = some o) (ht : ∀ p ∈ L, IsT P w h' p.2 p.1) : SetTR P w h' a L es ep t := by
  obtain ⟨o, ho, r⟩ := R.ob
  exact ⟨⟨o, ha o ho, r⟩, R.rows, R.tab, R.nd, ht, R.plain, R.led, R.room, R.few⟩
theorem setTR_fresh {h : Heap} {a : Addr} (ho : h.get? a = some { cls := .type "set", dict := none, data := .set #[] 0 (.fresh 0 0 (!w.params.followText "set-order")) }) : SetTR P w h a [] #[] 0 (.fresh 0 0 (!w.params.followText "set-order")) where
  ob := ⟨_, ho, ⟨rfl, rfl, rfl⟩, rfl⟩
  rows := rfl
  tab := ⟨List.Pairwise.nil, rfl, rfl, .inl rfl, fun x hx => (by cases hx), fun i h j hi => (by simp at hi)⟩
  nd := List.nodup_nil
  tup := fun p hp => (by cases hp)
  plain := trivial
  led := by
    show _ ∨ (!w.params.followText "set-order") = true
    cases w.params.followText "set-order"
    · exact .inr rfl
    · exact .inl rfl
  room := by
    show 0 * 5 < 7 * 3
    decide
  few := by
    show 0 < 4001
    decide
theorem set_update_tups {I : Addr} {fp wr : List Addr} {G : Array GenState → Array GenState → Prop} {n : Nat} {Pv : Nat → Value → Prop} {St : Nat → Shared → Prop} {R : Result → Shared → Prop}
    (W : WalksS P w A.in1 I fp wr G n Pv St) (S : Addr) (hSf : S ∉ fp) (ks : List (Addr × NestedKey)) (hn : n = ks.length) (hfew : ∀ D : List NestedKey, D.Nodup → (∀ k ∈ D, k ∈ ks.map (·.2)) → D.length ≤ 4000) (hval : ∀ i v, Pv i v → ∃ p, ks[i]? = some p ∧ v = .ref p.1)
    (h0 : Heap) (hk : ∀ p ∈ ks, IsT P w h0 p.2 p.1) (hS0 : h0.get? S = none) (hw0 : ∀ b ∈ wr, h0.get? b = none) (hu : A.in1.units + 8 < cLine) :
    ∀ (k i : Nat) (s : Shared), n - i = k → i ≤ n → St i s → (∀ b o, h0.get? b = some o → s.heap.get? b = some o) → (∃ L es ep t, SetTR P w s.heap S L es ep t ∧ Got ks i L) →
      (∀ s' L es ep t, Moved (S :: wr) G s s' → SetTR P w s'.heap S L es ep t → Got ks n L → (∀ b o, h0.get? b = some o → s'.heap.get? b = some o) → R (.ok (.ret .none)) s') →
      codeAny (model P w) A (.builtin "set.update.loop" ⟨[.ref S, .ref I], []⟩) R s := by
  have hSw : S ∉ wr := fun h => hSf (W.sub _ h)
  have hsub : ∀ b ∈ wr, b ∈ S :: wr := fun b hb => List.mem_cons_of_mem _ hb
  have keepM : ∀ {s s' : Shared}, Moved wr G s s' → (∀ b o, h0.get? b = some o → s.heap.get? b = some o) → ∀ b o, h0.get? b = some o → s'.heap.get? b = some o := fun hm hkp b o e =>
    hm.heap b o (fun hb => by rw [hw0 b hb] at e; cases e) (hkp b o e)
  intro k
  induction k with
  | zero =>
    intro i s hk' hi hst hkp ⟨L, es, ep, t, hS, g⟩ hR
    have hin : i = n := by omega
    subst hin
    refine codeAny_builtin F.entry_set_update_loop ?_
    rw [Around.under_plainId F.plain_set_update_loop _]
    show wpAny _ A.in1 (pyNext (.ref I) >>= _) _ _ s
    refine wpAny_bind (W.done s _ _ hst fun s' hm => ?_)
    show wpAny _ A.in1 (ret Value.none) _ _ s'
    have hkp' := keepM hm hkp
    have sub : ∀ p ∈ L, p ∈ ks := fun p hp => List.mem_of_mem_take (g.sub p hp)
    exact wpAny_pure (hR s' L es ep t (hm.mono hsub) (hS.keep (fun o e => hm.heap S o hSw e) fun p hp => isT_keep (hk p (sub p hp)) hkp') g hkp')
  | succ k ih =>
    intro i s hk' hi hst hkp ⟨L, es, ep, t, hS, g⟩ hR
    have hlt : i < n := by omega
    refine codeAny_builtin F.entry_set_update_loop ?_
    rw [Around.under_plainId F.plain_set_update_loop _]
    show wpAny _ A.in1 (pyNext (.ref I) >>= _) _ _ s
    refine wpAny_bind (W.item i s _ _ hlt hst fun v s' hP hst' hm => ?_)
    obtain ⟨p, hp, rfl⟩ := hval i v hP
    have hkp' := keepM hm hkp
    have sub : ∀ p ∈ L, p ∈ ks := fun p hp => List.mem_of_mem_take (g.sub p hp)
    have hS' : SetTR P w s'.heap S L es ep t := hS.keep (fun o e => hm.heap S o hSw e) fun q hq => isT_keep (hk q (sub q hq)) hkp'
    have hx : IsT P w s'.heap p.2 p.1 := isT_keep (hk p (List.mem_of_getElem? hp)) hkp'
    show wpAny _ A.in1 (holding [Value.ref p.1] (setAdd S (.ref p.1)) >>= _) _ _ s'
    refine wpAny_bind (wpAny_holding ?_)
    unfold setAdd
    refine wpAny_holding ?_
    refine wpAny_bind ((nestedKind P w).pyHash hu hx ?_)
    refine add_at (s := { s' with toks := s'.toks + p.2.draws }) hS' hx hu (fun c => by
      have := hfew (p.2 :: L.map (·.2)) (List.nodup_cons.mpr ⟨c, hS'.nd⟩) (fun k hk => by
        rcases List.mem_cons.mp hk with e | hk
        · rw [e]; exact List.mem_map.mpr ⟨p, List.mem_of_getElem? hp, rfl⟩
        · obtain ⟨q, hq, e⟩ := List.mem_map.mp hk
          exact List.mem_map.mpr ⟨q, sub q hq, e⟩)
      rw [List.length_cons, List.length_map] at this
      omega) fun b h' L' es' ep' t' hsb hS2 c1 c2 => ?_
    have g' : Got ks (i + 1) L' := by
      rcases Classical.em (p.2 ∈ L.map (·.2)) with c | c
      · rw [c1 c]; exact g.same hp c
      · exact g.more hp (c2 c)
    have hkp2 : ∀ b o, h0.get? b = some o → h'.get? b = some o := fun b o e => (hsb.2 b (fun z => by rw [z, hS0] at e; cases e)).trans (hkp' b o e)
    refine wpAny_pure ⟨plainId_quiet F.plain_set_update_loop _, ih (i + 1) _ (by omega) hlt (W.frame _ s' _ _ hst' (Nat.le_add_right _ _) fun b hb o e => ?_) hkp2 ⟨L', es', ep', t', hS2, g'⟩ fun s'' L2 es2 ep2 t2 hm'' hS'' g'' hkp'' => ?_⟩
    · rw [hsb.2 b (fun h : b = S => hSf (by rw [← h]; exact hb))]; exact e
    · refine hR s'' L2 es2 ep2 t2 (Moved.trans W.gtrans ((hm.mono hsub).then_heap (Nat.le_add_right _ _) fun b o hb e => ?_) hm'') hS'' g'' hkp''
      rw [hsb.2 b (fun h : b = S => hb (by rw [h]; exact List.mem_cons_self))]; exact e
set_option maxRecDepth 100000 in
set_option maxHeartbeats 3200000 in
theorem call_set_tups {l : Addr} {items : Array Value} (ks : List (Addr × NestedKey)) {Q : Value → Shared → Prop} (hh : A.handled = none) (hl : s.heap.IsList l items) (hit : items.toList = ks.map fun p => Value.ref p.1)
    (hk : ∀ p ∈ ks, IsT P w s.heap p.2 p.1) (hfew : ∀ D : List NestedKey, D.Nodup → (∀ k ∈ D, k ∈ ks.map (·.2)) → D.length ≤ 4000) (hu : A.units + 11 < cLine)
    (h : ∀ (h' : Heap) (tk : Nat) L es ep t, SetTR P w h' s.heap.objs.size L es ep t → Got ks ks.length L → (∀ b o, s.heap.get? b = some o → h'.get? b = some o) → Q (.ref s.heap.objs.size) { s with heap := h', toks := tk }) :
    wpAny (model P w) A (call (.type "set") [.ref l]) Q E s := by
  have hisz : items.size = ks.length := by
    have q := congrArg List.length hit
    rw [Array.length_toList, List.length_map] at q
    exact q
  obtain ⟨c, tl, hmro⟩ := F.called_set.mro
  have hmade := F.called_set.made
  have hsub := F.called_set.sub
  refine wpAny_call (codeAny_of_tree ?_)
  show wpAny _ _ (callAny (.type "set") _) _ _ _
  refine wpAny_pure ⟨Code.quiet_builtin _ (by decide +kernel), codeAny_builtin F.entry_type_call ?_⟩
  rw [Around.under_plain (weight_type_call_type "set" [.ref l] []) rfl]
  have h1 := F.called_set.notType
  have h2 := F.called_set.canCreate
  have hct := F.typeCall_set_1 (.ref l)
  repeat (any_goals (first | assumption | wp_step))

  refine codeAny_mono (code_set_led1 (.ref l) (E := E) (Q₁ := fun obj s₁ => obj = .ref s.heap.objs.size ∧ s₁ = { s with heap := s.heap.push { cls := .type "set", dict := none, data := .set #[] 0 (.fresh 0 0 (!w.params.followText "set-order")) } }) ⟨rfl, rfl⟩) fun r s₁ hr => ?_
  cases r with
  | error e => exact hr
  | ok fl =>
    cases fl with
    | ret obj =>
      obtain ⟨rfl, rfl⟩ := hr
      have hS : (s.heap.push { cls := .type "set", dict := none, data := .set #[] 0 (.fresh 0 0 (!w.params.followText "set-order")) }).get? s.heap.objs.size = some { cls := .type "set", dict := none, data := .set #[] 0 (.fresh 0 0 (!w.params.followText "set-order")) } := Heap.get?_push_size _ rfl
      have hT : Shared.TypeIs { s with heap := s.heap.push { cls := .type "set", dict := none, data := .set #[] 0 (.fresh 0 0 (!w.params.followText "set-order")) } } (.ref s.heap.objs.size) "set" := ⟨_, hS, rfl⟩
      have hli := F.called_set.init.lookup
      have hbi := F.called_set.init.bind (.ref s.heap.objs.size)
      repeat (any_goals (first | assumption | wp_step))

      refine codeAny_mono (codeAny_call_builtin (R := wants (fun r s₂ => r = .none ∧ ∃ h' tk L es ep t, s₂ = { s with heap := h', toks := tk } ∧ SetTR P w h' s.heap.objs.size L es ep t ∧ Got ks ks.length L ∧
          (∀ b o, s.heap.get? b = some o → h'.get? b = some o)) E) F.called_set.init.plain F.entry_set_init (check_set_init_1 hT ?_)) fun r₂ s₂ hr₂ => ?_
      · obtain ⟨ol, hol, hcl, nl, hdl⟩ := hl
        obtain ⟨ocls, odict, odata, oslots⟩ := ol
        simp only at hcl hdl
        subst hcl; subst hdl
        have hol' : (s.heap.push { cls := .type "set", dict := none, data := .set #[] 0 (.fresh 0 0 (!w.params.followText "set-order")) }).get? l = some { cls := .type "list", dict := odict, data := .seq items nl, slots := oslots } := Heap.get?_push_of_some _ hol
        have hsls := F.sub_list_set
        have hslf := F.sub_list_frozenset
        have hne : (Value.type "list" == Value.type "dict") = false := by decide
        have hl1 : (s.heap.push { cls := .type "set", dict := none, data := .set #[] 0 (.fresh 0 0 (!w.params.followText "set-order")) }).IsList l items := ⟨_, hol', rfl, nl, rfl⟩
        unfold Builtin.«set.__init__» noKeywords Builtin.Frozenset.updateFrom
        generalize hPI : pyIter = PI
        wp_walk
        subst hPI

        refine wpAny_pyIter_list hl1 ?_
        refine wpAny_bind (wpAny_runValue ?_)
        have hlS : l < s.heap.objs.size := Heap.lt_size hol
        have hh3 : A.in1.in1.in1.handled = none := by simp [hh]
        have hz1 : (s.heap.push { cls := .type "set", dict := none, data := .set #[] 0 (.fresh 0 0 (!w.params.followText "set-order")) }).objs.size = s.heap.objs.size + 1 := Heap.size_push ..
        have hneI : l ≠ (s.heap.push { cls := .type "set", dict := none, data := .set #[] 0 (.fresh 0 0 (!w.params.followText "set-order")) }).objs.size := by
          rw [Heap.size_push]; exact Nat.ne_of_lt (Nat.lt_succ_of_lt hlS)
        have hSf : s.heap.objs.size ∉ [(s.heap.push { cls := .type "set", dict := none, data := .set #[] 0 (.fresh 0 0 (!w.params.followText "set-order")) }).objs.size, l] := by
          rw [Heap.size_push]; simp only [List.mem_cons, List.mem_singleton, List.not_mem_nil, or_false, not_or]
          exact ⟨Nat.ne_of_lt (Nat.lt_succ_self _), Nat.ne_of_gt hlS⟩
        have hval : ∀ (i : Nat) (v : Value), items[i]? = some v → ∃ p, ks[i]? = some p ∧ v = .ref p.1 := fun i v hv => by
          have q : items.toList[i]? = some v := by rw [Array.getElem?_toList]; exact hv
          rw [hit, List.getElem?_map] at q
          cases hq : ks[i]? with
          | none => rw [hq] at q; cases q
          | some p =>
            rw [hq] at q
            exact ⟨p, rfl, (Option.some.inj q).symm⟩
        have none_of : ∀ b, s.heap.objs.size ≤ b → s.heap.get? b = none := fun b hb => by
          cases q : s.heap.get? b with
          | none => rfl
          | some o => exact absurd (Nat.lt_of_lt_of_le (Heap.lt_size q) hb) (Nat.lt_irrefl _)
        refine set_update_tups ((Walks.list hh3 _ l hneI items).toS) s.heap.objs.size
          hSf ks hisz hfew hval s.heap hk (none_of _ (Nat.le_refl _)) (fun b hb => none_of b (by
            rw [List.mem_singleton.mp hb, Heap.size_push]
            exact Nat.le_succ _)) hu (items.size - 0) 0 _ (by omega) (Nat.zero_le _)
          ⟨⟨_, Heap.get?_push_size _ rfl, rfl, rfl⟩, (hl1.push _)⟩ (fun b o e => Heap.get?_push_of_some _ (Heap.get?_push_of_some _ e)) ?hS0 ?hR
        case hS0 =>
          have hget : ((s.heap.push { cls := .type "set", dict := none, data := .set #[] 0 (.fresh 0 0 (!w.params.followText "set-order")) }).push { cls := .type "list_iterator", data := .fields #[.ref l, .int 0 0] }).get? s.heap.objs.size
              = some { cls := .type "set", dict := none, data := .set #[] 0 (.fresh 0 0 (!w.params.followText "set-order")) } := Heap.get?_push_of_some _ hS
          exact ⟨[], #[], 0, _, setTR_fresh hget, Got.zero ks⟩
        case hR =>
          intro s' L es ep t hm hS' g' hkp
          obtain ⟨h', g2, d', tk', os'⟩ := s'
          have eg : g2 = s.gens := hm.gens
          have ed : d' = s.drawn := hm.drawn
          have eo : os' = s.os := hm.os
          subst eg; subst ed; subst eo
          show wpAny _ _ _ _ _ _
          refine wpAny_pure ?_
          show wpAny _ _ (ret Value.none) _ _ _
          rw [hisz] at g'
          exact wpAny_pure ⟨rfl, h', tk', L, es, ep, t, rfl, hS', g', hkp⟩

      · cases r₂ with
        | error e => exact hr₂
        | ok fl₂ =>
          cases fl₂ with
          | ret r =>
            obtain ⟨rfl, h', tk, L, es, ep, t, rfl, hS', g', hk'⟩ := hr₂
            repeat (any_goals (first | assumption | wp_step))
            exact h _ _ _ _ _ _ hS' g' hk'
          | _ => exact hr₂.elim
    | _ => exact hr.elim
end
end Tz.Nn
namespace Tz.Nn
open PySem PySem.Spec PyProof.Rows L2
structure SetT0 (P : Program) (w : World) (h : Heap) (a : Addr) (L : List (Addr × NestedKey)) : Prop where
  ex : ∃ (es : Array (Int × Value)) (ep : Nat) (t : SetTable), (∃ o, h.get? a = some o ∧ o.ExactSet ∧ o.data = .set es ep t) ∧ es.toList = rowsOf P w L ∧ TabOk t (L.map fun p => thash P w p.2) ∧ (L.map (·.2)).Nodup ∧ True ∧
    (w.params.followText "set-order" = true ∨ t.led = true) ∧ L.length * 5 < t.mask * 3 ∧ L.length < 4001
def SetTO (P : Program) (w : World) (a : Addr) (L : List (Addr × NestedKey)) : HO := .ext fun h => SetT0 P w h a L
theorem SetTR.t0 {P : Program} {w : World} {h : Heap} {a : Addr} {L : List (Addr × NestedKey)} {es : Array (Int × Value)} {ep : Nat} {t : SetTable} (R : SetTR P w h a L es ep t) : SetT0 P w h a L :=
  ⟨es, ep, t, R.ob, R.rows, R.tab, R.nd, R.plain, R.led, R.room, R.few⟩
end Tz.Nn
set_option Elab.async false
set_option linter.all false
set_option maxRecDepth 100000
set_option maxHeartbeats 4000000
namespace Dn
open PySem PySem.Spec PyProof.Rows L2 TL
variable [Tb0]
def Ty.soK : Ty → Bool
  | .int => true | .str => true
  | .tup t => t.soK && t.canEq
  | .p2 a b => a.soK && a.canEq && b.soK
  | .p3 a b c => a.soK && a.canEq && (b.soK && b.canEq) && c.soK
  | _ => false
theorem So.ltL {α : Type} {lt eq : α → α → Bool} (h : So lt) (he : ∀ x y, eq x y = true ↔ x = y) : So (Dn.ltL eq lt) where
  irr x := by
    induction x with
    | nil => rfl
    | cons x xs ih => simp only [Dn.ltL]; rw [if_pos ((he _ _).mpr rfl)]; exact ih
  tri x := by
    induction x with
    | nil => intro y; cases y with
      | nil => exact .inr (.inl rfl)
      | cons y ys => exact .inl rfl
    | cons x xs ih =>
      intro y
      cases y with
      | nil => exact .inr (.inr rfl)
      | cons y ys =>
        simp only [Dn.ltL]
        by_cases c : x = y
        · subst c
          rw [if_pos ((he _ _).mpr rfl), if_pos ((he _ _).mpr rfl)]
          rcases ih ys with k | k | k
          · exact .inl k
          · exact .inr (.inl (by rw [k]))
          · exact .inr (.inr k)
        · rw [if_neg fun e => c ((he _ _).mp e), if_neg fun e => c ((he _ _).mp e).symm]
          rcases h.tri x y with k | k | k
          · exact .inl k
          · exact absurd k c
          · exact .inr (.inr k)
  tr x := by
    induction x with
    | nil =>
      intro y z h1 h2
      cases z with
      | nil => cases y with
        | nil => exact h1
        | cons y ys => cases h2
      | cons z zs => rfl
    | cons x xs ih =>
      intro y z h1 h2
      cases y with
      | nil => cases h1
      | cons y ys =>
        cases z with
        | nil => cases h2
        | cons z zs =>
          simp only [Dn.ltL] at *
          by_cases c : x = y
          · subst c
            rw [if_pos ((he _ _).mpr rfl)] at h1
            by_cases d : x = z
            · subst d
              rw [if_pos ((he _ _).mpr rfl)] at h2 ⊢
              exact ih _ _ h1 h2
            · rw [if_neg fun e => d ((he _ _).mp e)] at h2 ⊢
              exact h2
          · rw [if_neg fun e => c ((he _ _).mp e)] at h1
            by_cases d : y = z
            · subst d
              rw [if_neg fun e => c ((he _ _).mp e)]
              exact h1
            · rw [if_neg fun e => d ((he _ _).mp e)] at h2
              have t := h.tr _ _ _ h1 h2
              rw [if_neg fun e => ?_]
              · exact t
              · have e := (he _ _).mp e
                rw [e, h.irr] at t
                cases t
theorem so_nk : ∀ {T : Ty}, T.soK = true → So (ltT T)
  | .int, _ => so_k1 rfl
  | .str, _ => so_k1 rfl
  | .tup t, h => by
    have h : (t.soK && t.canEq) = true := h
    rw [Bool.and_eq_true] at h
    have e : ltT (.tup t) = Dn.ltL (fun a b => PyData.eqv (toPy t a) (toPy t b)) (ltT t) := by funext x y; simp only [ltT]
    rw [e]
    exact So.ltL (so_nk h.1) (eqv_iff t h.2)
  | .p2 a b, h => by
    have h : (a.soK && a.canEq && b.soK) = true := h
    rw [Bool.and_eq_true, Bool.and_eq_true] at h
    have e : ltT (.p2 a b) = lexB (ltT a) (ltT b) (fun x y => PyData.eqv (toPy a x) (toPy a y)) := by
      funext x y; simp only [ltT]; rfl
    rw [e]
    exact So.lex (so_nk h.1.1) (so_nk h.2) (eqv_iff a h.1.2)
  | .p3 a b c, h => by
    have h : (a.soK && a.canEq && (b.soK && b.canEq) && c.soK) = true := h
    rw [Bool.and_eq_true, Bool.and_eq_true, Bool.and_eq_true, Bool.and_eq_true] at h
    have e : ltT (.p3 a b c) = lexB (ltT a) (lexB (ltT b) (ltT c) (fun x y => PyData.eqv (toPy b x) (toPy b y))) (fun x y => PyData.eqv (toPy a x) (toPy a y)) := by
      funext x y; simp only [ltT]; rfl
    rw [e]
    exact So.lex (so_nk h.1.1.1) (So.lex (so_nk h.1.2.1) (so_nk h.2) (eqv_iff b h.1.2.2)) (eqv_iff a h.1.1.2)
def Ty.refK : Ty → Bool
  | .tup _ => true | .p2 _ _ => true | .p3 _ _ _ => true | _ => false
def Ty.zK (t : Ty) : Bool := t.soK && t.refK && (t.canLt && t.canSort) && (decide (t.dep ≤ 4) && decide (t.kd ≤ 8))
theorem zK_parts {T : Ty} (h : T.zK = true) : T.soK = true ∧ T.refK = true ∧ T.canLt = true ∧ T.canSort = true ∧ T.dep ≤ 4 ∧ T.kd ≤ 8 := by
  unfold Ty.zK at h
  simp only [Bool.and_eq_true, decide_eq_true_eq] at h
  exact ⟨h.1.1.1, h.1.1.2, h.1.2.1, h.1.2.2, h.2.1, h.2.2⟩
end Dn
namespace Tz.Nn
open PySem PySem.Spec PyProof.Rows L2
section
variable {P : Program} {w : World} {A : Around} {E : Value → Shared → Prop} {s : Shared}
open PySem.W Dn in
theorem each_of_map {T : Ty} {L : List (Addr × NestedKey)} : ∀ {L1 : List (Addr × NestedKey)} {bs : List T.den}, L1.map (·.2) = bs.map (nk T) → (∀ p ∈ L1, p ∈ L) → EachIs (fun v y => ∃ q, v = Value.ref q ∧ (q, nk T y) ∈ L) (L1.map fun p => Value.ref p.1) bs
  | [], [], _, _ => .nil
  | [], b :: bs, e, _ => by cases e
  | p :: L1, [], e, _ => by cases e
  | p :: L1, b :: bs, e, h => by
    simp only [List.map_cons, List.cons.injEq] at e
    exact .cons ⟨p.1, rfl, by rw [← e.1]; exact h p (List.mem_cons_self ..)⟩ (each_of_map e.2 fun q hq => h q (List.mem_cons_of_mem _ hq))
open PySem.W Dn in
theorem sorted_setZ {T : Ty} {ys : List T.den} {a : Addr} {L : List (Addr × NestedKey)} {es : Array (Int × Value)} {ep : Nat} {t : SetTable} {Q : Value → Shared → Prop} (hkt : T.zK = true) (R : SetTR P w s.heap a L es ep t) (hh : A.handled = none) (hu : A.units + 8 < cLine)
    (hL : L.map (·.2) = ys.map (nk T)) (hrd : ∀ p ∈ L, ∀ y, p.2 = nk T y → ∀ h' : Heap, (∀ b o, s.heap.get? b = some o → h'.get? b = some o) → Reads h' (.ref p.1) (toPy T y) [])
    (hQ : ∀ (s' : Shared) (p : Addr) (out : List Value) (c : Nat), (∀ b o, s.heap.get? b = some o → s'.heap.get? b = some o) → s'.gens = s.gens → s'.os = s.os → s.heap.objs.size ≤ p →
      s'.heap.get? p = some (seqObj "list" out.toArray c) → EachIs (fun v y => ∃ q, v = Value.ref q ∧ (q, nk T y) ∈ L) out (Dn.sortT T ys) → Q (.ref p) s') :
    wpAny (model P w) A (call (.builtin "sorted") [.ref a]) Q E s := by
  obtain ⟨o, ho, hex, hd⟩ := R.ob
  have hsz := R.size
  have hfew := R.few
  obtain ⟨hso0, _, hlt, hso, hdp, _⟩ := zK_parts hkt
  refine Calls.call_function_entry kind_sorted plain_sorted entry_sorted (args_sorted1 _) ?_
  unfold Builtin.«sorted»
  refine wpAny_bind (m := checkCount "sorted" 1 1 _) (wpAny_pure ?_)
  refine wpAny_bind (collect_set (A := A.in1) hh ⟨o, ho, hex.1, hd⟩ R.fits (by unfold scanBound; omega) R.tab.ris R.led fun s1 vs k1 hz g1 o1 pm => ?_)
  have hes : es.toList.map (·.2) = L.map fun q => Value.ref q.1 := by
    rw [R.rows]
    unfold rowsOf
    rw [List.map_map] <;> rfl
  rw [hes] at pm
  obtain ⟨L1, e1, pL⟩ := perm_unmap pm rfl
  obtain ⟨bs, e2, pb⟩ := perm_unmap (pL.map (·.2)) hL
  have hE := each_of_map (T := T) (L := L) (L1 := L1) (bs := bs) e2 fun p hp => pL.mem_iff.mp hp
  rw [← e1] at hE
  have hbl : bs.length < 4001 := by
    have := congrArg List.length hL
    rw [List.length_map, List.length_map] at this
    rw [pb.length_eq, ← this]; exact hfew
  have hvl : vs.length < 4001 := by rw [pm.length_eq, List.length_map]; exact hfew
  refine wpAny_bind (wpAny_newList ?_ (by rw [sizeLine_eq]; omega))
  have hoL : (s1.heap.push (seqObj "list" vs.toArray 0)).get? s1.heap.objs.size = some (seqObj "list" vs.toArray 0) := Heap.get?_push_size _ rfl
  refine wpAny_bind (wpAny_holding (list_sort_data (A := A.in1) (s := { s1 with heap := s1.heap.push (seqObj "list" vs.toArray 0) }) (enc := Dn.toPy T) hoL hE (hE.mono fun v x ⟨q, e, hq⟩ => ⟨[], by rw [e]; exact hrd _ hq x rfl _ fun b u e => Heap.get?_push_of_some _ (k1 b u e), by simp⟩) (AllAlike.of (Dn.alike_of T hlt)) (Dn.sortable hso bs) (by rw [sizeLine_eq]; omega)
    (fun b hb => by have := Dn.dep_le T b; show A.units + 1 + 1 + _ < _; omega) fun out hl2 ho2 => ?_))
  rw [Dn.le_data hlt] at ho2
  refine wpAny_pure ⟨_, rfl, ?_⟩
  obtain ⟨c, hc⟩ := sortedHeap_at (vs := vs) (out := out.toArray) hoL
  refine hQ _ s1.heap.objs.size out c (fun b u e => ?_) g1 o1 hz hc ?_
  · have q := k1 b u e
    have hlt := Heap.lt_size q
    show (sortedHeap (s1.heap.push (seqObj "list" vs.toArray 0)) s1.heap.objs.size vs out.toArray).get? b = some u
    rw [sortedHeap_old (Nat.ne_of_lt hlt) (by rw [size_push']; exact Nat.lt_succ_of_lt hlt)]
    exact Heap.get?_push_of_some _ q
  · rw [← sortK_perm (so_nk hso0) pb]; exact ho2
end
end Tz.Nn
namespace Dn
open PySem PySem.Spec PyProof.Rows L2 TL
variable [Tb0]
section
variable {X : Cx}
def SetReps (X : Cx) (T : Ty) (H : Hp) (L : List (Addr × NestedKey)) : Prop := ∃ G, Same G H ∧ ∀ p ∈ L, ∃ x : T.den, p.2 = nk T x ∧ Rep X.K T G (.ref p.1) x
def rSetN (X : Cx) (T : Ty) : List V → Hp → VK → Prop := fun xs H Q => ∃ (l : Addr) (ks : List (Addr × NestedKey)), xs = [V.ref l] ∧ SqL X.K H l (ks.map fun p => V.ref p.1) ∧ SetReps X T H ks ∧
  (∀ D : List NestedKey, D.Nodup → (∀ k ∈ D, k ∈ ks.map (·.2)) → D.length ≤ 4000) ∧
  ∀ a L, H a = none → (∀ p ∈ L, p ∈ ks) → (∀ p ∈ ks, p.2 ∈ L.map (·.2)) → (L.map (·.2)).Nodup → Q (.ref a) (upd H a (Tz.Nn.SetTO X.prog X.w a L))
def rSortedN (X : Cx) (T : Ty) : List V → Hp → VK → Prop := fun vs H Q => ∃ (a : Addr) (L : List (Addr × NestedKey)) (ys : List T.den), vs = [V.ref a] ∧ H a = some (Tz.Nn.SetTO X.prog X.w a L) ∧ SetReps X T H L ∧ L.map (·.2) = ys.map (nk T) ∧
  ∀ (qs : List Addr) (p : Addr), Paired (fun (q : Addr) (y : T.den) => (q, nk T y) ∈ L) qs (sortT T ys) → H p = none → Q (.ref p) (upd H p (.lst (qs.map V.ref)))
open PySem.W in
theorem each_refsN {T : Ty} {L : List (Addr × NestedKey)} : ∀ {out : List Value} {ys : List T.den}, EachIs (fun v y => ∃ q, v = Value.ref q ∧ (q, nk T y) ∈ L) out ys → ∃ qs : List Addr, out = qs.map Value.ref ∧ Paired (fun (q : Addr) (y : T.den) => (q, nk T y) ∈ L) qs ys
  | _, _, .nil => ⟨[], rfl, .nil⟩
  | _, _, .cons h t => by
    obtain ⟨q, rfl, hq⟩ := h
    obtain ⟨qs, rfl, h2⟩ := each_refsN t
    exact ⟨q :: qs, rfl, .cons hq h2⟩
def rLenN (X : Cx) (T : Ty) : List V → Hp → VK → Prop := fun vs H Q => ∃ (a : Addr) (L : List (Addr × NestedKey)), vs = [V.ref a] ∧ H a = some (Tz.Nn.SetTO X.prog X.w a L) ∧ SetReps X T H L ∧ Q (.int ((L.length : Nat) : Int)) H
end
section
variable {X : Cx} {e : Expr} {p p2 p3 pos pos2 : Pos} {Γ Γ1 : List Slot} {T : Ty} {xs : List T.den}
end
end Dn
set_option Elab.async false
set_option linter.all false
set_option maxRecDepth 100000
set_option maxHeartbeats 1000000
namespace Dn
open PySem PySem.Spec PyProof.Rows L2 TL
variable [Tb0]
section
variable {X : Cx} {pins : List (Addr × Obj)} {σ : L2.St} {H : Hp} {s : Shared} {a b : Addr} {r : Value} {d : V} {k : List Key} {A : Around} {E : Value → Shared → Prop}
end
def tDSetdT (td ty tx : TE) : TE := fun σ H Q => td σ H fun x H1 => ∃ (a : Addr) (ws0 : List (List Key × V)), x = .ref a ∧ H1 a = some (.dT ws0) ∧ ty σ H1 fun y H2 => tx σ H2 fun z H3 => ∃ (kvs : List (List Key × V)) (k : List Key) (b : Addr), H3 a = some (.dT kvs) ∧ y = .ref b ∧ H3 b = some (.tup (k.map kV)) ∧ kvs.length < sizeLine ∧
  (∀ v, valV kvs k = some v → Q v H3) ∧ (valV kvs k = none → Q z (upd H3 a (.dT (putK kvs k z))))
section
variable {X : Cx} {o e f : Expr} {td ty tx : TE} {apos cpos : Pos}
end
section
variable {K : PySem.W.Frag} {F : Fx} {G H : Hp} {σ : L2.St} {Γ : List Slot}
theorem Wd.loose {T1 : Hp} (W : Wd K { F with T := T1 } G σ H Γ) (hT : ∀ b o, F.T b = some o → T1 b = some o) : Wd K F G σ H Γ := by
  have nn : ∀ b, T1 b = none → F.T b = none := fun b h => by
    cases e : F.T b with
    | none => rfl
    | some o => rw [hT b o e] at h; cases h
  exact {
    len := W.len
    gh := W.gh
    th := fun b o e => W.th b o (hT b o e)
    tg := fun b o e hn => W.tg b o (hT b o e) hn
    sl := fun j s e => by
      have q := W.sl j s e
      cases s with
      | ow pin o =>
        obtain ⟨a, ho2, h1, h2, h3, h4, h5, h6⟩ := q
        exact ⟨a, ho2, h1, h2, nn a h3, h4, h5, h6⟩
      | un => exact q
      | fr t x => exact q
      | fd o => exact q
      | mb t x => exact q
      | ns t x => exact q
    dj := W.dj
    ns := W.ns.go (fun j t x e => ⟨e, rfl⟩) (Same.refl G) fun a o q1 q2 q3 q4 => ⟨q1, q2, nn a q3, q4⟩
    tb := W.tb }
def atD (d : Addr) : Slot := .fd (.fnp (fun _ v => v = V.ref d) (fun _ _ _ _ e => e))
end
abbrev K2 : Ty := .p2 .int .str
abbrev Ld3 : Type := (Int × List Nat) × Addr × List Int
def leadsT (ys : List (Int × List Nat × Int)) : List ((Int × List Nat) × List Int) := ys.foldl (fun acc y => kput acc (y.1, y.2.1) ((kget acc (y.1, y.2.1)).getD [] ++ [y.2.2])) []
def ents (L : List Ld3) : List (List Key × V) := L.map fun e => (keyL K2 e.1, V.ref e.2.1)
def kvL (L : List Ld3) : List ((Int × List Nat) × List Int) := L.map fun e => (e.1, e.2.2)
structure LdOk (F : Fx) (T1 : Hp) (d : Addr) (L : List Ld3) : Prop where
  dict : T1 d = some (.dT (ents L))
  lists : ∀ e ∈ L, T1 e.2.1 = some (.lst (e.2.2.map V.int))
  nd : (d :: L.map (·.2.1)).Nodup
  ks : (L.map (·.1)).Nodup
  sub : ∀ b o, F.T b = some o → T1 b = some o
  fre : ∀ b ∈ d :: L.map (·.2.1), F.T b = none
section
variable {X : Cx} {ρ : Type} {R : RI ρ} {tg iter : Expr} {g : TG} {pos apos apos2 cpos cpos2 dpos tpos lpos epos p1 p2 p3 : Pos} {tk : Nat} {Γ Γ1 : List Slot} {ys : List (Int × List Nat × Int)} {B : Int × List Nat × Int → List Slot → List Slot} {tgs : List Nat} {nd n1 n2 n3 : Str}
end
end Dn
set_option Elab.async false
set_option linter.all false
set_option maxRecDepth 100000
set_option maxHeartbeats 1000000
namespace Zl
open PySem PySem.Spec PyProof.Rows L2 RZ Zn
section
variable {prog : Program} {w : World} {A : Around} {E : Value → Shared → Prop} {s : Shared} {z TI TO i1 i2 l1 l2 : Addr} {f0 : Value} {f : Bool} {k1 k2 : Nat} {xs ys : Array Value}
theorem next_item {x y a b : Value} {Q : Option Value → Shared → Prop} (D : ZipApart z TI TO i1 i2 l1 l2) (hz : Zp s.heap z TI TO f0 f) (h0 : Out0 f0) (hTI : IsPair s.heap TI (.ref i1) (.ref i2)) (hTO : IsPair s.heap TO a b)
    (h1 : s.heap.IsTupleIter i1 l1 k1) (h2 : s.heap.IsTupleIter i2 l2 k2) (hl1 : s.heap.IsTuple l1 xs) (hl2 : s.heap.IsTuple l2 ys) (hx : xs[k1]? = some x) (hy : ys[k2]? = some y)
    (hQ : ∀ g f1 f', Zp g z TI TO f1 f' → Out0 f1 → (∃ a' b', IsPair g TO a' b') → g.IsTupleIter i1 l1 (k1 + 1) → g.IsTupleIter i2 l2 (k2 + 1) → IsPair g s.heap.objs.size x y → (∀ c o, c ≠ z → c ≠ TO → c ≠ i1 → c ≠ i2 → s.heap.get? c = some o → g.get? c = some o) → Q (some (.ref s.heap.objs.size)) { s with heap := g }) :
    wpAny (model prog w) A (pyNext (.ref z)) Q E s := by
  have hTy : s.TypeIs (.ref z) "zip" := ⟨_, hz, rfl⟩
  unfold pyNext
  exact wpAny_bind (wpAny_attempt (wpAny_callSpecial?_slot (name := Str.ofString "__next__") hTy PySem.F.slot_zip_next
    (wpAny_call_entry PySem.F.slot_zip_next hTy PySem.F.entry_zip_next
      (zn_item D hz h0 hTI hTO h1 h2 hl1 hl2 hx hy fun g f1 f' a1 a2 a3 a4 a5 a6 a7 => wpAny_pure (hQ g f1 f' a1 a2 a3 a4 a5 a6 a7)) (PySem.F.args_zip_next_1 _))))
theorem next_end {a b : Value} {Q : Option Value → Shared → Prop} (hh : A.handled = none) (D : ZipApart z TI TO i1 i2 l1 l2) (hz : Zp s.heap z TI TO f0 f) (h0 : Out0 f0) (hTI : IsPair s.heap TI (.ref i1) (.ref i2)) (hTO : IsPair s.heap TO a b)
    (h1 : s.heap.IsTupleIter i1 l1 k1) (h2 : s.heap.IsTupleIter i2 l2 k2) (hl1 : s.heap.IsTuple l1 xs) (hl2 : s.heap.IsTuple l2 ys) (hend : xs[k1]? = none ∨ ys[k2]? = none)
    (hQ : ∀ g, (∀ c o, c ≠ z → c ≠ TO → c ≠ i1 → c ≠ i2 → s.heap.get? c = some o → g.get? c = some o) → Q none { s with heap := g }) :
    wpAny (model prog w) A (pyNext (.ref z)) Q E s := by
  have hTy : s.TypeIs (.ref z) "zip" := ⟨_, hz, rfl⟩
  unfold pyNext
  refine wpAny_bind (wpAny_attempt (wpAny_callSpecial?_slot (name := Str.ofString "__next__") hTy PySem.F.slot_zip_next
    (wpAny_call_entry PySem.F.slot_zip_next hTy PySem.F.entry_zip_next (zn_end hh D hz h0 hTI hTO h1 h2 hl1 hl2 hend fun g e hk he => ?_) (PySem.F.args_zip_next_1 _))))
  obtain ⟨o, ho, hc⟩ := he
  refine wpAny_bind (wpAny_isInstance (T := "StopIteration") (b := true) ⟨o, ho, hc⟩ isSubtype_stop ?_)
  exact wpAny_pure (hQ _ hk)
end
inductive Prs : Hp → List (V × V) → Hp → List Addr → Prop where
  | nil (H : Hp) : Prs H [] H []
  | cons {H H' : Hp} {T : Addr} {x y : V} {ps : List (V × V)} {Ts : List Addr} : H T = none → Prs (upd H T (.tup [x, y])) ps H' Ts → Prs H ((x, y) :: ps) H' (T :: Ts)
section
variable {X : Cx} {pins : List (Addr × Obj)} {σ : L2.St} {z TI TO i1 i2 a b S : Addr} {xs ys : List V}
theorem loop {A : Around} (hh : A.handled = none) (D : ZipApart z TI TO i1 i2 a b) (hS : S ≠ z ∧ S ≠ TI ∧ S ≠ TO ∧ S ≠ i1 ∧ S ≠ i2) (R : Result → Shared → Prop) (res : Value) :
    ∀ (k i : Nat) (s : Shared) (H : Hp) (acc : Array Value) (c : Nat), min xs.length ys.length - i = k → i ≤ min xs.length ys.length → Inv X pins σ H s → (∀ c, c ∈ [S, z, TI, TO, i1, i2] → FpOk X pins H c) → SqT X.K H a xs → SqT X.K H b ys →
      (∃ f0 f, Zp s.heap z TI TO f0 f ∧ Out0 f0) → IsPair s.heap TI (.ref i1) (.ref i2) → (∃ x y, IsPair s.heap TO x y) → s.heap.IsTupleIter i1 a i → s.heap.IsTupleIter i2 b i →
      s.heap.get? S = some { cls := .type "list", dict := none, data := .seq acc c, slots := #[] } → acc.size = i →
      (∀ s' H' Ts acc' c', Inv X pins σ H' s' → Prs H ((xs.zip ys).drop i) H' Ts → s'.heap.get? S = some { cls := .type "list", dict := none, data := .seq acc' c', slots := #[] } → acc'.toList = acc.toList ++ Ts.map Value.ref → FpOk X pins H' S → R (.ok (.ret res)) s') →
      codeAny (model X.prog X.w) A (.builtin "list.extend.loop" ⟨[.ref S, .ref z, res], []⟩) R s := by
  obtain ⟨S1, S2, S3, S4, S5⟩ := hS
  intro k
  induction k with
  | zero =>
    intro i s H acc c hk hi I hf hqx hqy hz hTI hTO h1 h2 hSl ha hR
    obtain ⟨f0, f, hz, h0⟩ := hz
    obtain ⟨x0, y0, hTO⟩ := hTO
    obtain ⟨its, rv, p, n1⟩ := I.tuple hqx
    obtain ⟨its2, rv2, p2, n2⟩ := I.tuple hqy
    have l1 := rv.length
    have l2 := rv2.length
    refine codeAny_builtin PySem.F.entry_extend_loop ?_
    rw [Around.under_plainId PySem.F.plain_extend_loop _]
    show wpAny _ A.in1 (pyNext (.ref z) >>= _) _ _ s
    refine wpAny_bind (next_end hh D hz h0 hTI hTO h1 h2 p p2 (by
      by_cases e : xs.length ≤ i
      · exact .inl (by simp; omega)
      · exact .inr (by simp; omega)) fun g hk2 => ?_)
    refine wpAny_pure (hR _ H [] acc c (I.turnedL (t' := s.toks) (ch := [z, TI, TO, i1, i2]) (fun c o hb q => hk2 c o (fun e => hb (by simp [e])) (fun e => hb (by simp [e])) (fun e => hb (by simp [e])) (fun e => hb (by simp [e])) q) fun c hm => hf c (by simp at hm ⊢; exact .inr hm)) ?_ (hk2 _ _ S1 S3 S4 S5 hSl) (by simp) (hf S (by simp)))
    rw [List.drop_eq_nil_of_le (by simp; omega)]
    exact .nil H
  | succ k ih =>
    intro i s H acc c hk hi I hf hqx hqy hz hTI hTO h1 h2 hSl ha hR
    obtain ⟨f0, f, hz, h0⟩ := hz
    obtain ⟨x0, y0, hTO⟩ := hTO
    obtain ⟨its, rv, p, n1⟩ := I.tuple hqx
    obtain ⟨its2, rv2, p2, n2⟩ := I.tuple hqy
    have lx : i < xs.length := by omega
    have ly : i < ys.length := by omega
    have hx : xs[i]? = some xs[i] := List.getElem?_eq_getElem lx
    have hy : ys[i]? = some ys[i] := List.getElem?_eq_getElem ly
    obtain ⟨u, hu, ru⟩ := rv.get hx
    obtain ⟨u2, hu2, ru2⟩ := rv2.get hy
    refine codeAny_builtin PySem.F.entry_extend_loop ?_
    rw [Around.under_plainId PySem.F.plain_extend_loop _]
    show wpAny _ A.in1 (pyNext (.ref z) >>= _) _ _ s
    refine wpAny_bind (next_item D hz h0 hTI hTO h1 h2 p p2 (x := u) (y := u2) (by simpa using hu) (by simpa using hu2) fun g f1 f' z' o' TO' h1' h2' hp hk2 => ?_)
    have new : ObjOk X.prog X.w (upd H s.heap.objs.size (.tup [xs[i], ys[i]])) g s.heap.objs.size (.tup [xs[i], ys[i]]) := ⟨by show 2 ≤ sizeLine; decide, [u, u2], .cons ru (.cons ru2 .nil), ⟨_, hp, rfl, _, rfl⟩⟩
    have hf' : ∀ c, c ∈ [z, TI, TO, i1, i2] → FpOk X pins H c := fun c hm => hf c (by simp at hm ⊢; exact .inr hm)
    have I1 : Inv X pins σ (upd H s.heap.objs.size (.tup [xs[i], ys[i]])) { s with heap := g } :=
      I.turnedNew (t' := s.toks) (ch := [z, TI, TO, i1, i2]) (fun c o hb q => hk2 c o (fun e => hb (by simp [e])) (fun e => hb (by simp [e])) (fun e => hb (by simp [e])) (fun e => hb (by simp [e])) q) hf' (Nat.le_refl _) new
    have hn : H s.heap.objs.size = none := I.hok.fresh (Nat.le_refl _)
    have sm : Same H (upd H s.heap.objs.size (.tup [xs[i], ys[i]])) := fun c u e => by rw [upd_ne (ne_of_none e hn)]; exact e
    have hSl' := hk2 _ _ S1 S3 S4 S5 hSl
    have lt : ∀ c, c ∈ [S, z, TI, TO, i1, i2] → c < s.heap.objs.size := fun c hcm => by
      have q : c = S ∨ c = z ∨ c = TI ∨ c = TO ∨ c = i1 ∨ c = i2 := by simpa using hcm
      rcases q with rfl | rfl | rfl | rfl | rfl | rfl
      · exact Heap.lt_size hSl
      · exact Heap.lt_size hz
      · exact Heap.lt_size hTI
      · exact Heap.lt_size hTO
      · obtain ⟨_, e1, _⟩ := h1; exact Heap.lt_size e1
      · obtain ⟨_, e2, _⟩ := h2; exact Heap.lt_size e2
    have hf2 : ∀ c, c ∈ [S, z, TI, TO, i1, i2] → FpOk X pins (upd H s.heap.objs.size (.tup [xs[i], ys[i]])) c := fun c hm => by
      obtain ⟨q1, q2⟩ := hf c hm
      exact ⟨by rw [upd_ne (Nat.ne_of_lt (lt c hm))]; exact q1, q2⟩
    show wpAny _ A.in1 (updateSeq S (·.push (.ref s.heap.objs.size)) >>= _) _ _ _
    refine wpAny_bind ?_
    refine wpAny_updateSeq hSl' rfl (wpAny_pure ⟨plainId_quiet PySem.F.plain_extend_loop _, ?_⟩) (by rw [ha]; omega) (by show (acc.push _).size ≤ sizeLine + 1; rw [Array.size_push, ha]; omega)
    have oth : ∀ c o, c ≠ S → g.get? c = some o → (g.update S (Obj.mapSeq (·.push (.ref s.heap.objs.size)))).get? c = some o := fun c o h e => (Heap.get?_update_other _ _ (Ne.symm h)).trans e
    refine ih (i + 1) { s with heap := g.update S (Obj.mapSeq (·.push (.ref s.heap.objs.size))) } (upd H s.heap.objs.size (.tup [xs[i], ys[i]])) (acc.push (.ref s.heap.objs.size)) _ (by omega) (by omega)
      (Inv.turnedL (s := { s with heap := g }) (t' := s.toks) (ch := [S]) I1 (fun c o hb q => oth c o (fun e => hb (by simp [e])) q) fun c hm => hf2 c (by simp at hm; simp [hm])) hf2 (sqt_mono' sm hqx) (sqt_mono' sm hqy)
      ⟨f1, f', oth _ _ S1.symm z', o'⟩ (oth _ _ S2.symm (hk2 _ _ D.TIz D.TITO D.TIi1 D.TIi2 hTI)) (by obtain ⟨a', b', q⟩ := TO'; exact ⟨a', b', oth _ _ S3.symm q⟩) (h1'.at fun o e => oth _ o S4.symm e) (h2'.at fun o e => oth _ o S5.symm e)
      (Heap.get?_update_self _ hSl' rfl) (by rw [Array.size_push, ha]) fun s' H' Ts acc' c' J pr hS' he hfS => ?_
    refine hR s' H' (s.heap.objs.size :: Ts) acc' c' J ?_ hS' (by rw [he, Array.toList_push]; simp) hfS
    rw [List.drop_eq_getElem_cons (by simp; omega), List.getElem_zip]
    exact .cons hn pr
where
  sqt_mono' {K : PySem.W.Frag} {G G' : Hp} {a : Addr} {xs : List V} (e : Same G G') (h : SqT K G a xs) : SqT K G' a xs := by
    rcases h with (h | ⟨o, h⟩) | h
    · exact .inl (.inl (e _ _ h))
    · exact .inl (.inr ⟨o, e _ _ h⟩)
    · exact .inr h
end
end Zl
namespace Zl
open PySem PySem.Spec PyProof.Rows L2 RZ Zn
section
variable {X : Cx} {pins : List (Addr × Obj)} {σ : L2.St} {H : Hp} {s : Shared}
theorem vals_refs : ∀ Ts : List Addr, Vals (Ts.map V.ref) (Ts.map Value.ref)
  | [] => .nil
  | _ :: Ts => .cons rfl (vals_refs Ts)
def tLstZip (K : PySem.W.Frag) (ta : TA) : TE := fun σ H Q => ta σ H fun vs H1 => ∃ (a b : Addr) (xs ys : List V), vs = [.ref a, .ref b] ∧ SqT K H1 a xs ∧ SqT K H1 b ys ∧
  ∀ H' Ts, Prs H1 (xs.zip ys) H' Ts → ∀ q, H' q = none → Q (.ref q) (upd H' q (.lst (Ts.map V.ref)))
end
end Zl
namespace Dn
open PySem PySem.Spec PyProof.Rows L2
variable [Tb0]
section
variable {X : Cx} {a b : Expr} {p p2 pos pos2 : Pos} {Γ Γ1 Γ2 : List Slot} {t u : Ty} {xs : List t.den} {ys : List u.den}
end
end Dn
set_option Elab.async false
set_option linter.all false
set_option maxRecDepth 100000
set_option maxHeartbeats 1000000
namespace Dn
open PySem PySem.Spec PyProof.Rows L2 TL
theorem depthAll_cons {d : PyData} {ds : List PyData} {n : Nat} (h : PyData.depthAll (d :: ds) ≤ n) : d.depth ≤ n ∧ PyData.depthAll ds ≤ n := by
  simp only [PyData.depthAll] at h; omega
theorem hasDictAll_cons {d : PyData} {ds : List PyData} (h : PyData.hasDictAll (d :: ds) = false) : d.hasDict = false ∧ PyData.hasDictAll ds = false := by
  rw [show PyData.hasDictAll (d :: ds) = (PyData.hasDict d || PyData.hasDictAll ds) from rfl, Bool.or_eq_false_iff] at h; exact h
def datL : (ds : List PyData) → PyData.depthAll ds ≤ 8 → PyData.hasDictAll ds = false → List Dat
  | [], _, _ => []
  | d :: ds, h1, h2 => ⟨d, (depthAll_cons h1).1, (hasDictAll_cons h2).1⟩ :: datL ds (depthAll_cons h1).2 (hasDictAll_cons h2).2
theorem tup_depth {ds : List PyData} (h : (PyData.tuple ds).depth ≤ 8) : PyData.depthAll ds ≤ 8 := by
  simp only [PyData.depth] at h; omega
def Dat.its : Dat → List Dat
  | ⟨.tuple ds, h1, h2⟩ => datL ds (tup_depth h1) h2
  | _ => []
def Dat.isTup : Dat → Bool
  | ⟨.tuple _, _, _⟩ => true
  | _ => false
def datOf (t : Ty) (x : t.den) (hd : t.dep ≤ 8) : Dat := ⟨toPy t x, Nat.le_trans (@dep_le tb0_none t x) hd, @noDict tb0_none t x⟩
def nameD : PyData → String
  | .none => "NoneType" | .bool _ => "bool" | .int _ => "int" | .str _ => "str" | .list _ => "list" | .tuple _ => "tuple" | .dict _ => "dict"
def isiD (T : String) (x : Dat) : Bool := (kitB (nameD x.d) T).getD false
@[irreducible] def splitS (s x : List Nat) : List (List Nat) := (Txt.split ⟨x.toArray⟩ ⟨s.toArray⟩).map fun y => y.cps.toList
@[irreducible] def intS (i : Int) : List Nat := (Str.ofString (toString i)).cps.toList
def SzI (i : Int) : Prop := i.natAbs.log2 < 1920
@[irreducible] def txtInt (x : List Nat) : Option Int := intText? ⟨x.toArray⟩
variable [Tb0]
section
variable {X : Cx} {Γ Γ1 Γ2 Γ3 : List Slot} {a b e : Expr} {es : List Expr} {p p2 pos pos2 apos : Pos}
def DJ (X : Cx) (es : List Expr) (Γ : List Slot) (x : List Nat) (Γ' : List Slot) : Prop := ∀ (F : Fx) (G : Hp) (σ : L2.St) (H : Hp), Wd X.K F G σ H Γ → ∀ (acc : List Nat) (Q : Str → Hp → Prop), acc.length + x.length ≤ 100000 →
  (∀ G' H', Same G G' → Wd X.K F G' σ H' Γ' → Q ⟨(acc ++ x).toArray⟩ H') → tJs (es.map fun e => WPE X e) ⟨acc.toArray⟩ σ H Q
end
section
variable {X : Cx} {ρ : Type} {R : RI ρ} {Γ : List Slot} {o : Out ρ} {body : List Stmt} {h₀ : ExceptHandler} {hs : List ExceptHandler} {pos : Pos}
end
end Dn
set_option Elab.async false
set_option linter.all false
set_option maxRecDepth 100000
set_option maxHeartbeats 1000000
namespace Dn
open PySem PySem.Spec PyProof.Rows L2 TL
variable [Tb0]
section
variable {X : Cx} {ρ : Type} {R : RI ρ} {S : List Slot → Prop} {c : Value} {f : Option Str} {W : WX} {Γ Γ1 Γ2 : List Slot} {pos pos' tpos bpos p np : Pos} {a e : Expr} {es : List Expr} {t u : Ty} {kt : Nat}
end
def φG (mg : Str → Option Value) (n : Str) : Hp → V → Prop := fun _ v => ∃ a : Addr, v = .ref a ∧ mg n = some (.ref a)
section
variable {X : Cx} {ρ : Type} {R : RI ρ} {S : List Slot → Prop} {c : Value} {f : Option Str} {W : WX} {Γ Γ1 Γ2 : List Slot} {pos pos' p np : Pos} {e : Expr} {es : List Expr} {t u : Ty}
end
section
open PySem.W in
theorem op_leD {X : Cx} {t : Ty} {k : Nat} (hr : RoomG k X.A) (hc : t.canLt = true) (hd : t.dep ≤ 60) : OpR X (compareOp .LtE) (fun x y H Q => ∃ (d e : t.den), Dp X.K H x (toPy t d) ∧ Dp X.K H y (toPy t e) ∧ Q (.bl (!ltT t e d)) H) := by
  intro pins s σ H x y v u Q I rx ry h
  obtain ⟨d, e, h1, h2, q⟩ := h
  obtain ⟨as, r1⟩ := Dp.reads I _ x v h1 rx
  obtain ⟨bs, r2⟩ := Dp.reads I _ y u h2 ry
  have hne : toPy t d ≠ .none := by
    cases t <;> first | (simp [toPy]; done) | cases hc
  have key := rcLe_alike (toPy t d) (toPy t e) X.A s v u as bs r1 r2 (alike_of t hc d e) hne (by
    have h1 := hr.units
    have h2 := dep_le t d
    omega)
  show wpAny _ _ (richCompare .LtE v u) _ _ _
  exact key _ _ _ _ ⟨.bl _, H, I, rfl, by rw [lt_data t hc]; exact q⟩
end
end Dn
namespace Dn
open PySem PySem.Spec PyProof.Rows L2 TL
variable [Tb0]
def optT : Option Int → Bool
  | none => false
  | some n => !decide (n = 0)
end Dn
set_option Elab.async false
set_option linter.all false
set_option maxRecDepth 100000
set_option maxHeartbeats 1000000
namespace Dn
open PySem PySem.Spec PyProof.Rows L2 TL
variable [Tb0]
def φT (K : PySem.W.Frag) (mg : Str → Option Value) (a b : Str) (T : Ty) (x : T.den) : Hp → V → Prop := fun G v =>
  ∃ (p f g : Addr) (w : V), v = .ref p ∧ G p = some (.tup [.ref f, w, .ref g]) ∧ mg a = some (.ref f) ∧ Rep K T G w x ∧ mg b = some (.ref g)
def φL (φ1 φ2 : Hp → V → Prop) : Hp → V → Prop := fun G v => ∃ (p : Addr) (v1 v2 : V), v = .ref p ∧ Rd G p (.lst [v1, v2]) ∧ φ1 G v1 ∧ φ2 G v2
section
variable {X : Cx} {ρ : Type} {R : RI ρ} {Γ Γ1 Γ2 : List Slot} {pos pos' p np lp pa pb : Pos} {e e1 e2 tg : Expr} {es : List Expr} {T : Ty} {x : T.den} {a b n : Str} {φ1 φ2 : Hp → V → Prop}
theorem ClX.has {P : Program} {w : World} {K : PySem.W.Frag} {mg : Str → Option Value} {base : Heap} {k : Nat} {n : Str} {ps : List Str} {sp : Sp} (C : ClX P w K mg base k n ps sp) : ∃ f : Addr, mg n = some (.ref f) := by
  obtain ⟨fa, fd, F, hm, hk, hb⟩ := C.ex
  exact ⟨fa, hm⟩
theorem Cl.has {P : Program} {w : World} {K : PySem.W.Frag} {mg : Str → Option Value} {base : Heap} {k : Nat} {n : Str} {ps : List Str} {sp : Sp} (C : Cl P w K mg base k n ps sp) : ∃ f : Addr, mg n = some (.ref f) := by
  obtain ⟨fa, fd, F, hm, hk, hb⟩ := C.ex
  exact ⟨fa, hm⟩
def EvF (K : PySem.W.Frag) (g : TG) (φ : Hp → V → Prop) (B : List Slot → List Slot) (tgs : List Nat) : Prop :=
  ∀ (F : Fx) (G : Hp) (σ : L2.St) (H : Hp) (Γ : List Slot) (v : V), Wd K F G σ H Γ → φ G v → ∀ Q : L2.St → Hp → Prop, (∀ σ', At' tgs σ σ' → Wd K F G σ' H (B Γ) → Q σ' H) → g v σ H Q
end
end Dn
set_option Elab.async false
set_option linter.all false
set_option maxRecDepth 100000
set_option maxHeartbeats 1000000
namespace Dn
open PySem PySem.Spec PyProof.Rows L2 TL
variable [Tb0]
def exVal (k n : Int) : Int := if k = 1 then n - 1 else if k = 3 then n + 1 else if 4 ≤ k then 0 else n
section
variable {X : Cx} {ρ : Type} {R : RI ρ} {Γ Γ1 Γ2 : List Slot} {e test : Expr} {p p2 pos apos np : Pos} {n v : Str} {x : Nat × Int} {thn els : List Stmt} {o : Out ρ} {b : Bool}
theorem de_exv (i k : Nat) {c : Value} {f : Option Str} {z : Int} (hc : Tb0.cs k = (c, f)) (h : Γ[i]? = some (.fd (.xc c f z)) := by rfl) (hN : X.N[i]? = some n := by rfl) (hv : Vis X.env.scope n := by first | exact Or.inl rfl | exact Or.inr (Or.inl rfl) | exact Or.inr (Or.inr rfl))
    (hd : (n == ("__debug__" : Str)) = false := by decide) (hcd : (n == ("__classdict__" : Str)) = false := by decide) : DE X (.Name n np) Γ .ex (k, z) Γ := fun F G σ H W Q q => by
  obtain ⟨v, h1, h2⟩ := W.sl i _ h
  exact wpe_of (pe_var hN hv hd hcd) ⟨v, h1, q v G H (Same.refl G) W (by show XcOk G v (Tb0.cs k).1 (Tb0.cs k).2 z; rw [hc]; exact h2)⟩
theorem call_isXE : CallR X (.builtin "isinstance") (fun xs H Q => ∃ C a, ExcK X.K C ∧ rIsX X.K C a xs H Q) := by
  intro pins s σ H xs us Q I r h
  obtain ⟨C, a, E, h⟩ := h
  exact call_isX (a := a) E pins s σ H xs us Q I r h
theorem de_isiEx {w : V} {cv : Value} {T : Nat → Bool} (hm : X.mg "isinstance" = none) (hc : PE X (.Name v p2) (tC w)) (hw : IsV w cv) (hE : ∃ C f, Tb0.cs x.1 = (.ref C, f) ∧ ExcK X.K C ∧ PySem.W.kitOne X.K (.ref C) cv = some (T x.1)) (h : DE X e Γ .ex x Γ1) (hg : Gl X "isinstance" := by rfl)
    (hs : starEach [e, .Name v p2] X.env = (false, eval e X.env) :: starEach [.Name v p2] X.env := by rfl) (hs2 : starEach [.Name v p2] X.env = (false, eval (.Name v p2) X.env) :: starEach [] X.env := by rfl) (hpl : (backTo pos (starEach [.Name v p2] X.env)).any (·.1) = false := by rfl) :
    DE X (.Call (.Name "isinstance" p) [e, .Name v p2] [] pos) Γ .bool (T x.1) Γ1 := fun F G σ H W Q q => by
  obtain ⟨C, f, e1, E, hk⟩ := hE
  exact wpe_of (pe_callB call_isXE hg hm (by decide +kernel) (pa_cons pe_wp (pa_cons hc pa_nil hs2) hs) (by decide) (by decide) hs hpl) (h F G σ H W _ fun y G1 H1 s1 W1 r1 => by
    have r1 : XcOk G1 y (Tb0.cs x.1).1 (Tb0.cs x.1).2 x.2 := r1
    rw [e1] at r1
    obtain ⟨a, d, rfl, h2, h3⟩ := r1
    exact ⟨C, a, E, w, T x.1, d, rfl, W1.gh _ _ h2, exDc_of W1.gh h3, .inl ⟨cv, hw, hk⟩, q _ G1 H1 s1 W1 rfl⟩)
theorem de_exf {fn : Str} {k : Nat} {C : Addr} (hx : x.1 = k) (hcs : Tb0.cs k = (.ref C, some fn)) (T : XfC X.K C) (hno : PySem.W.findIn X.K (.ref C) fn = some none) (h : DE X e Γ .ex x Γ1) (hb : attributeBase e fn X.env (eval e X.env) = eval e X.env := by rfl) :
    DE X (.Attribute e fn pos) Γ .int x.2 Γ1 := fun F G σ H W Q q => by
  have pe : PE X (.Attribute e fn pos) (fun σ H Q => WPE X e σ H fun y H1 => ∃ (a dd : Addr), y = .ref a ∧ H1 a = some (ExG (.ref C) (some dd) a) ∧ H1 dd = some (.xd [(fn, .int x.2)]) ∧ Q (.int x.2) H1) := by
    refine ⟨fun pins s σ H Q I h => ?_⟩
    refine attr_of hb (thn (pe_wp.run pins s σ H _ I h) fun u s1 hh => ?_)
    obtain ⟨y, H1, I1, ry, a, dd, ey, ea, ed, q⟩ := hh
    subst ey
    obtain rfl : u = Value.ref a := ry
    obtain ⟨oe, vs, g1, g2, g3⟩ := exg_at I1.hok ea
    have hx : ObjOk X.prog X.w H1 s1.heap dd (.xd [(fn, .int x.2)]) := I1.hok dd _ ed
    obtain ⟨mA, hns, hr⟩ := hx
    obtain ⟨od, ho, hl⟩ := lookIn_ns hns
    have l : List.lookup fn [(fn, V.int x.2)] = some (.int x.2) := by simp [List.lookup]
    obtain ⟨u, hu, ru⟩ := RelO.some_of (v := V.int x.2) (o := mA fn) (by rw [← l]; exact hr fn)
    have J : PySem.W.InstAt s1.heap a oe C (some od) := ⟨g1, g2.1, by unfold PySem.W.notCls; rw [g3] <;> rfl, by rw [g2.2]; exact ho⟩
    exact HandSPX.exc_get I1.kIn J T.ga T.gg T.exC (PySem.W.findObj_own T.hdC hno rfl (by rw [hl, hu])) (handed_of ru) ⟨.int x.2, H1, I1.tok _, ru, q⟩
  exact wpe_of pe (h F G σ H W _ fun y G1 H1 s1 W1 r1 => by
    have r1 : XcOk G1 y (Tb0.cs x.1).1 (Tb0.cs x.1).2 x.2 := r1
    rw [hx, hcs] at r1
    obtain ⟨a, d, rfl, h2, dd, rfl, h4⟩ := r1
    exact ⟨a, dd, rfl, W1.gh _ _ h2, W1.gh _ _ h4, q _ G1 H1 s1 W1 rfl⟩)
theorem ds_ifNo (h : DT X test Γ b Γ1) (hb : b = false) : DS X R (.If test thn [] pos) Γ (.nx Γ1) := fun F G σ H W D q => by
  subst hb
  exact ds_if (o1 := .nx Γ1) (o2 := .nx Γ1) h (fun z => by cases z) (fun _ => dss_nil) F G σ H W D ⟨fun z => (by cases z), fun _ => q⟩
theorem ds_ifYes (h : DT X test Γ b Γ1) (hb : b = true) (ht : DSs X R thn Γ1 o) : DS X R (.If test thn els pos) Γ o := fun F G σ H W D q => by
  subst hb
  exact ds_if (o1 := o) (o2 := .nx Γ1) h (fun _ => ht) (fun z => by cases z) F G σ H W D ⟨fun _ => q, fun z => by cases z⟩
end
end Dn
set_option Elab.async false
set_option linter.all false
set_option maxHeartbeats 1000000
namespace Mt
open Dn (Lp Lp.step mapS AllS AllF AllL loopL IxOk ix ixN_ok rng chars MulOk DivOk joinS SzJ Sz RngOk)
theorem ixOk {n : Nat} {i : Int} (h0 : 0 ≤ i) (h1 : i < n) : IxOk n i := ⟨by omega, h1⟩
theorem rng_mem {lo hi y : Int} (h : y ∈ rng lo hi) : lo ≤ y ∧ y < hi := by
  unfold rng at h
  obtain ⟨k, h1, rfl⟩ := List.mem_map.mp h
  rw [List.mem_range] at h1
  omega
theorem log2_lt {n k : Nat} (h : n < 2 ^ k) (hk : 0 < k) : n.log2 < k := by
  by_cases h0 : n = 0
  · subst h0; simpa using hk
  · exact (Nat.log2_lt h0).mpr h
theorem mulOk {i j : Int} (h1 : i.natAbs < 2 ^ 64) (h2 : j.natAbs < 2 ^ 64) : MulOk i j := by
  have a := log2_lt h1 (by omega)
  have b := log2_lt h2 (by omega)
  unfold MulOk; omega
theorem divOk {j : Int} (h1 : 0 < j) (h2 : j.natAbs < 2 ^ 64) : DivOk j := ⟨h1, by have := log2_lt h2 (by omega); omega⟩
theorem i20 : IxOk 2 0 := ⟨by decide, by decide⟩
theorem i21 : IxOk 2 1 := ⟨by decide, by decide⟩
end Mt
set_option Elab.async false
set_option linter.all false
set_option maxHeartbeats 1000000
namespace Mt
open Dn (whileV whileN AllW OkW EndW whileV_eq Lp Lp.step mapS AllS AllF AllL loopL IxOk ix ixN_ok rng chars MulOk DivOk joinS SzJ Sz RngOk Lp.fin Lp.done Lp.onGo Lp.brk Lp.NoRet)
structure Rn (α : Type) where
  ok : Prop
  val : α
namespace Rn
variable {α β S ρ T : Type}
@[irreducible] def pure (x : α) : Rn α := ⟨True, x⟩
@[irreducible] def chk (c : Prop) (r : Rn α) : Rn α := ⟨c ∧ r.ok, r.val⟩
@[irreducible] def bind (x : Rn α) (f : α → Rn β) : Rn β := ⟨x.ok ∧ (f x.val).ok, (f x.val).val⟩
@[irreducible] def brTF (c : Bool) (A B : Rn α) (K : α → Rn β) : Rn β := ⟨(c = true → A.ok) ∧ (c = false → B.ok) ∧ (K (bif c then A.val else B.val)).ok, (K (bif c then A.val else B.val)).val⟩
@[irreducible] def brT (c : Bool) (A B : Rn α) (K : α → Rn β) : Rn β := ⟨(c = true → A.ok) ∧ (K (bif c then A.val else B.val)).ok, (K (bif c then A.val else B.val)).val⟩
@[irreducible] def brF (c : Bool) (A B : Rn α) (K : α → Rn β) : Rn β := ⟨(c = false → B.ok) ∧ (K (bif c then A.val else B.val)).ok, (K (bif c then A.val else B.val)).val⟩
@[irreducible] def br (c : Bool) (A B : Rn α) (K : α → Rn β) : Rn β := ⟨(K (bif c then A.val else B.val)).ok, (K (bif c then A.val else B.val)).val⟩
@[irreducible] def ifTF (c : Bool) (A B : Rn α) : Rn α := ⟨(c = true → A.ok) ∧ (c = false → B.ok) ∧ True, bif c then A.val else B.val⟩
@[irreducible] def ifT (c : Bool) (A B : Rn α) : Rn α := ⟨(c = true → A.ok) ∧ True, bif c then A.val else B.val⟩
@[irreducible] def ifF (c : Bool) (A B : Rn α) : Rn α := ⟨(c = false → B.ok) ∧ True, bif c then A.val else B.val⟩
@[irreducible] def «if» (c : Bool) (A B : Rn α) : Rn α := ⟨True, bif c then A.val else B.val⟩
@[irreducible] def fold (f : S → α → Rn S) (s0 : S) (ys : List α) (K : S → Rn β) : Rn β := ⟨AllF (fun s y => (f s y).ok) (fun s y => (f s y).val) s0 ys ∧ (K (ys.foldl (fun s y => (f s y).val) s0)).ok, (K (ys.foldl (fun s y => (f s y).val) s0)).val⟩
@[irreducible] def maps (f : S → α → Rn (T × S)) (s0 : S) (ys : List α) (K : List T × S → Rn β) : Rn β := ⟨AllS (fun s y => (f s y).ok) (fun s y => (f s y).val) s0 ys ∧ (K (mapS (fun s y => (f s y).val) s0 ys)).ok, (K (mapS (fun s y => (f s y).val) s0 ys)).val⟩
@[irreducible] def lpF (f : S → α → Rn (Lp S ρ)) (s0 : S) (ys : List α) (K : S → Rn ρ) : Rn ρ := ⟨AllL (fun s y => (f s y).ok) (fun s y => (f s y).val) s0 ys ∧ (loopL (fun s y => (f s y).val) s0 ys).done (fun q => (K q).ok), (loopL (fun s y => (f s y).val) s0 ys).fin fun q => (K q).val⟩
@[irreducible] def lpT (f : S → α → Rn (Lp S ρ)) (s0 : S) (ys : List α) (K : S → Rn (Lp T ρ)) : Rn (Lp T ρ) := ⟨AllL (fun s y => (f s y).ok) (fun s y => (f s y).val) s0 ys ∧ (loopL (fun s y => (f s y).val) s0 ys).done (fun q => (K q).ok), (loopL (fun s y => (f s y).val) s0 ys).then fun q => (K q).val⟩
@[irreducible] def lpFE (f : S → α → Rn (Lp S ρ)) (s0 : S) (ys : List α) (K : S → Rn ρ) : Rn ρ := ⟨AllL (fun s y => (f s y).ok) (fun s y => (f s y).val) s0 ys ∧ True, (loopL (fun s y => (f s y).val) s0 ys).fin fun q => (K q).val⟩
@[irreducible] def lpTE (f : S → α → Rn (Lp S ρ)) (s0 : S) (ys : List α) (K : S → Rn (Lp T ρ)) : Rn (Lp T ρ) := ⟨AllL (fun s y => (f s y).ok) (fun s y => (f s y).val) s0 ys ∧ True, (loopL (fun s y => (f s y).val) s0 ys).then fun q => (K q).val⟩
@[irreducible] def lpBE [Inhabited β] (f : S → α → Rn (Lp S ρ)) (s0 : S) (ys : List α) (K : S → Rn β) : Rn β := ⟨AllL (fun s y => (f s y).ok) (fun s y => (f s y).val) s0 ys ∧ (loopL (fun s y => (f s y).val) s0 ys).NoRet ∧ True, (loopL (fun s y => (f s y).val) s0 ys).brk fun q => (K q).val⟩
@[irreducible] noncomputable def whl (c : S → Rn Bool) (f : S → Rn S) (s0 : S) (K : S → Rn β) : Rn β := ⟨AllW (fun s => (c s).ok) (fun s => (f s).ok) (fun s => (c s).val) (fun s => (f s).val) s0 ∧ (K (whileV (fun s => (c s).val) (fun s => (f s).val) s0)).ok, (K (whileV (fun s => (c s).val) (fun s => (f s).val) s0)).val⟩
end Rn
theorem fold_inv' {S α : Type} {P : S → α → Prop} {f : S → α → S} (I : Nat → S → Prop) : ∀ (zs ys : List α) (n : Nat) (s : S), zs.drop n = ys → I n s → (∀ s y i, zs[i]? = some y → I i s → P s y ∧ I (i + 1) (f s y)) →
    AllF P f s ys ∧ I (n + ys.length) (ys.foldl f s)
  | _, [], n, s, _, h, _ => ⟨trivial, h⟩
  | zs, y :: ys, n, s, e, h, k => by
    have hy : zs[n]? = some y := by rw [← List.head?_drop, e]; rfl
    obtain ⟨k1, k2⟩ := k s y n hy h
    obtain ⟨r1, r2⟩ := fold_inv' I zs ys (n + 1) (f s y) (by rw [← List.drop_drop, e]; rfl) k2 k
    refine ⟨⟨k1, r1⟩, ?_⟩
    have e : n + (y :: ys).length = n + 1 + ys.length := by simp only [List.length_cons]; omega
    rw [e]; exact r2
theorem mapS_inv' {S α β : Type} {P : S → α → Prop} {f : S → α → β × S} (I : Nat → S → Prop) (Qe : Nat → β → Prop) : ∀ (zs ys : List α) (n : Nat) (s : S), zs.drop n = ys → I n s → (∀ s y i, zs[i]? = some y → I i s → P s y ∧ I (i + 1) (f s y).2 ∧ Qe i (f s y).1) →
    AllS P f s ys ∧ I (n + ys.length) (mapS f s ys).2 ∧ (∀ j x, (mapS f s ys).1[j]? = some x → Qe (n + j) x) ∧ (mapS f s ys).1.length = ys.length
  | _, [], n, s, _, h, _ => ⟨trivial, h, (fun j x hx => by simp [mapS] at hx), rfl⟩
  | zs, y :: ys, n, s, e, h, k => by
    have hy : zs[n]? = some y := by rw [← List.head?_drop, e]; rfl
    obtain ⟨k1, k2, k3⟩ := k s y n hy h
    obtain ⟨r1, r2, r3, r4⟩ := mapS_inv' I Qe zs ys (n + 1) (f s y).2 (by rw [← List.drop_drop, e]; rfl) k2 k
    refine ⟨⟨k1, r1⟩, ?_, ?_, by simp [mapS, r4]⟩
    · have e : n + (y :: ys).length = n + 1 + ys.length := by simp only [List.length_cons]; omega
      rw [e]; exact r2
    · intro j x hx
      cases j with
      | zero => simp [mapS] at hx; subst hx; exact k3
      | succ j =>
        have := r3 j x (by simpa [mapS] using hx)
        rwa [show n + 1 + j = n + (j + 1) by omega] at this
def Sp {α : Type} (r : Rn α) (P : α → Prop) : Prop := r.ok ∧ P r.val
namespace Sp
variable {α β S ρ T : Type} {P : α → Prop} {Pb : β → Prop}
theorem of {r : Rn α} {ok : Prop} {v : α} (e : r = ⟨ok, v⟩) (h : ok ∧ P v) : Sp r P := by subst e; exact h
theorem to {r : Rn α} {ok : Prop} {v : α} (h : Sp r P) (e : r = ⟨ok, v⟩) : ok ∧ P v := by subst e; exact h
theorem imp {r : Rn α} {Q : α → Prop} (h : Sp r Q) (k : ∀ x, Q x → P x) : Sp r P := ⟨h.1, k _ h.2⟩
theorem ret {x : α} (h : P x) : Sp (Rn.pure x) P := by with_unfolding_all exact ⟨trivial, h⟩
theorem chk {c : Prop} {r : Rn α} (hc : c) (h : Sp r P) : Sp (Rn.chk c r) P := by with_unfolding_all exact ⟨⟨hc, h.1⟩, h.2⟩
theorem bind {x : Rn α} {f : α → Rn β} (h : Sp x P) (k : ∀ a, P a → Sp (f a) Pb) : Sp (Rn.bind x f) Pb := by with_unfolding_all exact ⟨⟨h.1, (k _ h.2).1⟩, (k _ h.2).2⟩
section
variable {c : Bool} {A B : Rn α} {K : α → Rn β}
theorem brTF (h1 : c = true → Sp A fun a => Sp (K a) Pb) (h2 : c = false → Sp B fun a => Sp (K a) Pb) : Sp (Rn.brTF c A B K) Pb := by
  cases c with
  | true => with_unfolding_all exact ⟨⟨fun _ => (h1 rfl).1, (fun z => nomatch z), (h1 rfl).2.1⟩, (h1 rfl).2.2⟩
  | false => with_unfolding_all exact ⟨⟨(fun z => nomatch z), fun _ => (h2 rfl).1, (h2 rfl).2.1⟩, (h2 rfl).2.2⟩
theorem brT (h1 : c = true → Sp A fun a => Sp (K a) Pb) (h2 : c = false → Sp B fun a => Sp (K a) Pb) : Sp (Rn.brT c A B K) Pb := by
  cases c with
  | true => with_unfolding_all exact ⟨⟨fun _ => (h1 rfl).1, (h1 rfl).2.1⟩, (h1 rfl).2.2⟩
  | false => with_unfolding_all exact ⟨⟨(fun z => nomatch z), (h2 rfl).2.1⟩, (h2 rfl).2.2⟩
theorem brF (h1 : c = true → Sp A fun a => Sp (K a) Pb) (h2 : c = false → Sp B fun a => Sp (K a) Pb) : Sp (Rn.brF c A B K) Pb := by
  cases c with
  | true => with_unfolding_all exact ⟨⟨(fun z => nomatch z), (h1 rfl).2.1⟩, (h1 rfl).2.2⟩
  | false => with_unfolding_all exact ⟨⟨fun _ => (h2 rfl).1, (h2 rfl).2.1⟩, (h2 rfl).2.2⟩
theorem br (h1 : c = true → Sp A fun a => Sp (K a) Pb) (h2 : c = false → Sp B fun a => Sp (K a) Pb) : Sp (Rn.br c A B K) Pb := by
  cases c with
  | true => with_unfolding_all exact (h1 rfl).2
  | false => with_unfolding_all exact (h2 rfl).2
theorem ifTF (h1 : c = true → Sp A P) (h2 : c = false → Sp B P) : Sp (Rn.ifTF c A B) P := by
  cases c with
  | true => with_unfolding_all exact ⟨⟨fun _ => (h1 rfl).1, (fun z => nomatch z), trivial⟩, (h1 rfl).2⟩
  | false => with_unfolding_all exact ⟨⟨(fun z => nomatch z), fun _ => (h2 rfl).1, trivial⟩, (h2 rfl).2⟩
theorem ifT (h1 : c = true → Sp A P) (h2 : c = false → Sp B P) : Sp (Rn.ifT c A B) P := by
  cases c with
  | true => with_unfolding_all exact ⟨⟨fun _ => (h1 rfl).1, trivial⟩, (h1 rfl).2⟩
  | false => with_unfolding_all exact ⟨⟨(fun z => nomatch z), trivial⟩, (h2 rfl).2⟩
theorem ifF (h1 : c = true → Sp A P) (h2 : c = false → Sp B P) : Sp (Rn.ifF c A B) P := by
  cases c with
  | true => with_unfolding_all exact ⟨⟨(fun z => nomatch z), trivial⟩, (h1 rfl).2⟩
  | false => with_unfolding_all exact ⟨⟨fun _ => (h2 rfl).1, trivial⟩, (h2 rfl).2⟩
theorem if0 (h1 : c = true → Sp A P) (h2 : c = false → Sp B P) : Sp (Rn.if c A B) P := by
  cases c with
  | true => with_unfolding_all exact ⟨trivial, (h1 rfl).2⟩
  | false => with_unfolding_all exact ⟨trivial, (h2 rfl).2⟩
end
theorem fold {f : S → α → Rn S} {s0 : S} {ys : List α} {K : S → Rn β} (I : Nat → S → Prop) (h0 : I 0 s0) (hs : ∀ s y i, y ∈ ys → i < ys.length → ys[i]? = some y → I i s → Sp (f s y) (I (i + 1))) (k : ∀ s, I ys.length s → Sp (K s) Pb) : Sp (Rn.fold f s0 ys K) Pb := by
  obtain ⟨a, b⟩ := fold_inv' (P := fun s y => (f s y).ok) (f := fun s y => (f s y).val) I ys ys 0 s0 rfl h0 fun s y i hy h => hs s y i (List.mem_of_getElem? hy) (List.getElem?_eq_some_iff.mp hy).1 hy h
  rw [Nat.zero_add] at b
  with_unfolding_all exact ⟨⟨a, (k _ b).1⟩, (k _ b).2⟩
theorem mapsI {f : S → α → Rn (T × S)} {s0 : S} {ys : List α} {K : List T × S → Rn β} (I : Nat → S → Prop) (Qe : Nat → T → Prop) (h0 : I 0 s0) (hs : ∀ s y i, y ∈ ys → i < ys.length → ys[i]? = some y → I i s → Sp (f s y) fun r => I (i + 1) r.2 ∧ Qe i r.1)
    (k : ∀ l s, I ys.length s → l.length = ys.length → (∀ j x, l[j]? = some x → Qe j x) → Sp (K (l, s)) Pb) : Sp (Rn.maps f s0 ys K) Pb := by
  obtain ⟨a, b, c, d⟩ := mapS_inv' (P := fun s y => (f s y).ok) (f := fun s y => (f s y).val) I Qe ys ys 0 s0 rfl h0 fun s y i hy h => hs s y i (List.mem_of_getElem? hy) (List.getElem?_eq_some_iff.mp hy).1 hy h
  rw [Nat.zero_add] at b
  have z := k _ _ b d fun j x h => by have := c j x h; rwa [Nat.zero_add] at this
  with_unfolding_all exact ⟨⟨a, z.1⟩, z.2⟩
theorem maps {f : S → α → Rn (T × S)} {s0 : S} {ys : List α} {K : List T × S → Rn β} (I : Nat → S → Prop) (Qe : T → Prop) (h0 : I 0 s0) (hs : ∀ s y i, y ∈ ys → i < ys.length → ys[i]? = some y → I i s → Sp (f s y) fun r => I (i + 1) r.2 ∧ Qe r.1)
    (k : ∀ l s, I ys.length s → l.length = ys.length → (∀ x ∈ l, Qe x) → Sp (K (l, s)) Pb) : Sp (Rn.maps f s0 ys K) Pb :=
  mapsI I (fun _ => Qe) h0 hs fun l s h e q => k l s h e fun x hx => by
    obtain ⟨j, hj⟩ := List.getElem?_of_mem hx
    exact q j x hj
def LpQ (I : S → Prop) (J : S → Prop) (R : ρ → Prop) : Lp S ρ → Prop
  | .go s => I s
  | .stop s => J s
  | .ret x => R x
theorem loop {f : S → α → Rn (Lp S ρ)} (I : Nat → S → Prop) (J : S → Prop) (R : ρ → Prop) : ∀ (zs ys : List α) (n : Nat) (s : S), zs.drop n = ys → I n s → (∀ s y i, zs[i]? = some y → I i s → Sp (f s y) (LpQ (I (i + 1)) J R)) →
    AllL (fun s y => (f s y).ok) (fun s y => (f s y).val) s ys ∧ LpQ (I (n + ys.length)) J R (loopL (fun s y => (f s y).val) s ys)
  | _, [], n, s, _, h, _ => ⟨trivial, h⟩
  | zs, y :: ys, n, s, e0, h, k => by
    have hy : zs[n]? = some y := by rw [← List.head?_drop, e0]; rfl
    obtain ⟨k1, k2⟩ := k s y n hy h
    show ((f s y).ok ∧ _) ∧ LpQ _ J R ((f s y).val.step _)
    have e : n + (y :: ys).length = n + 1 + ys.length := by simp only [List.length_cons]; omega
    rw [e]
    cases hv : (f s y).val with
    | go s' =>
      rw [hv] at k2
      obtain ⟨r1, r2⟩ := loop I J R zs ys (n + 1) s' (by rw [← List.drop_drop, e0]; rfl) k2 k
      refine ⟨⟨k1, ?_⟩, r2⟩
      show Lp.onGo (f s y).val _
      rw [hv]; exact r1
    | stop s' => rw [hv] at k2; refine ⟨⟨k1, ?_⟩, k2⟩; show Lp.onGo (f s y).val _; rw [hv]; trivial
    | ret x => rw [hv] at k2; refine ⟨⟨k1, ?_⟩, k2⟩; show Lp.onGo (f s y).val _; rw [hv]; trivial
section
variable {f : S → α → Rn (Lp S ρ)} {s0 : S} {ys : List α} {Pr : ρ → Prop}
theorem lpF {K : S → Rn ρ} (I : Nat → S → Prop) (J : S → Prop) (h0 : I 0 s0) (hs : ∀ s y i, y ∈ ys → i < ys.length → ys[i]? = some y → I i s → Sp (f s y) (LpQ (I (i + 1)) J Pr)) (k : ∀ s, I ys.length s ∨ J s → Sp (K s) Pr) : Sp (Rn.lpF f s0 ys K) Pr := by
  obtain ⟨a, b⟩ := loop I J Pr ys ys 0 s0 rfl h0 fun s y i hy h => hs s y i (List.mem_of_getElem? hy) (List.getElem?_eq_some_iff.mp hy).1 hy h
  rw [Nat.zero_add] at b
  with_unfolding_all show (_ ∧ Lp.done (loopL _ _ _) _) ∧ Pr (Lp.fin (loopL _ _ _) _)
  generalize loopL _ _ _ = r at *
  cases r with
  | go s => with_unfolding_all exact ⟨⟨a, (k s (.inl b)).1⟩, (k s (.inl b)).2⟩
  | stop s => with_unfolding_all exact ⟨⟨a, (k s (.inr b)).1⟩, (k s (.inr b)).2⟩
  | ret x => with_unfolding_all exact ⟨⟨a, trivial⟩, b⟩
theorem lpFE {K : S → Rn ρ} (I : Nat → S → Prop) (J : S → Prop) (h0 : I 0 s0) (hs : ∀ s y i, y ∈ ys → i < ys.length → ys[i]? = some y → I i s → Sp (f s y) (LpQ (I (i + 1)) J Pr)) (k : ∀ s, I ys.length s ∨ J s → Sp (K s) Pr) : Sp (Rn.lpFE f s0 ys K) Pr := by
  have := lpF I J h0 hs k
  with_unfolding_all exact ⟨⟨this.1.1, trivial⟩, this.2⟩
theorem lpT {K : S → Rn (Lp T ρ)} {PT : Lp T ρ → Prop} (I : Nat → S → Prop) (J : S → Prop) (R : ρ → Prop) (h0 : I 0 s0) (hs : ∀ s y i, y ∈ ys → i < ys.length → ys[i]? = some y → I i s → Sp (f s y) (LpQ (I (i + 1)) J R)) (k : ∀ s, I ys.length s ∨ J s → Sp (K s) PT) (kr : ∀ x, R x → PT (.ret x)) : Sp (Rn.lpT f s0 ys K) PT := by
  obtain ⟨a, b⟩ := loop I J R ys ys 0 s0 rfl h0 fun s y i hy h => hs s y i (List.mem_of_getElem? hy) (List.getElem?_eq_some_iff.mp hy).1 hy h
  rw [Nat.zero_add] at b
  with_unfolding_all show (_ ∧ Lp.done (loopL _ _ _) _) ∧ PT (Lp.then (loopL _ _ _) _)
  generalize loopL _ _ _ = r at *
  cases r with
  | go s => with_unfolding_all exact ⟨⟨a, (k s (.inl b)).1⟩, (k s (.inl b)).2⟩
  | stop s => with_unfolding_all exact ⟨⟨a, (k s (.inr b)).1⟩, (k s (.inr b)).2⟩
  | ret x => with_unfolding_all exact ⟨⟨a, trivial⟩, kr _ b⟩
theorem lpTE {K : S → Rn (Lp T ρ)} {PT : Lp T ρ → Prop} (I : Nat → S → Prop) (J : S → Prop) (R : ρ → Prop) (h0 : I 0 s0) (hs : ∀ s y i, y ∈ ys → i < ys.length → ys[i]? = some y → I i s → Sp (f s y) (LpQ (I (i + 1)) J R)) (k : ∀ s, I ys.length s ∨ J s → Sp (K s) PT) (kr : ∀ x, R x → PT (.ret x)) : Sp (Rn.lpTE f s0 ys K) PT := by
  have := lpT I J R h0 hs k kr
  with_unfolding_all exact ⟨⟨this.1.1, trivial⟩, this.2⟩
theorem lpBE [Inhabited β] {K : S → Rn β} {PT : β → Prop} (I : Nat → S → Prop) (J : S → Prop) (h0 : I 0 s0) (hs : ∀ s y i, y ∈ ys → i < ys.length → ys[i]? = some y → I i s → Sp (f s y) (LpQ (I (i + 1)) J fun _ => False)) (k : ∀ s, I ys.length s ∨ J s → Sp (K s) PT) : Sp (Rn.lpBE f s0 ys K) PT := by
  obtain ⟨a, b⟩ := loop I J (fun _ => False) ys ys 0 s0 rfl h0 fun s y i hy h => hs s y i (List.mem_of_getElem? hy) (List.getElem?_eq_some_iff.mp hy).1 hy h
  rw [Nat.zero_add] at b
  with_unfolding_all show (_ ∧ Lp.NoRet (loopL _ _ _) ∧ True) ∧ PT (Lp.brk (loopL _ _ _) _)
  generalize loopL _ _ _ = r at *
  cases r with
  | go s => with_unfolding_all exact ⟨⟨a, trivial, trivial⟩, (k s (.inl b)).2⟩
  | stop s => with_unfolding_all exact ⟨⟨a, trivial, trivial⟩, (k s (.inr b)).2⟩
  | ret x => exact b.elim
end
theorem whl {c : S → Rn Bool} {f : S → Rn S} {s0 : S} {K : S → Rn β} (I : S → Prop) (μ : S → Nat) (h0 : I s0) (hc : ∀ s, I s → (c s).ok) (hs : ∀ s, I s → (c s).val = true → Sp (f s) fun s' => I s' ∧ μ s' < μ s) (k : ∀ s, I s → (c s).val = false → Sp (K s) Pb) : Sp (Rn.whl c f s0 K) Pb := by
  have key : ∀ (n : Nat) (s : S), I s → μ s < n → ∃ m, OkW (fun s => (c s).ok) (fun s => (f s).ok) (fun s => (c s).val) (fun s => (f s).val) m s ∧ I (whileN (fun s => (c s).val) (fun s => (f s).val) m s) ∧ (c (whileN (fun s => (c s).val) (fun s => (f s).val) m s)).val = false := by
    intro n
    induction n with
    | zero => intro s _ h; omega
    | succ n ih =>
      intro s hI hm
      cases e : (c s).val with
      | false => exact ⟨0, ⟨hc s hI, e⟩, hI, e⟩
      | true =>
        have h1 := hs s hI e
        obtain ⟨m, q1, q2, q3⟩ := ih (f s).val h1.2.1 (by have := h1.2.2; omega)
        have ew : whileN (fun s => (c s).val) (fun s => (f s).val) (m + 1) s = whileN (fun s => (c s).val) (fun s => (f s).val) m (f s).val := by
          show (bif (c s).val then _ else _) = _
          rw [e]; rfl
        exact ⟨m + 1, ⟨hc s hI, fun _ => ⟨h1.1, q1⟩⟩, by rw [ew]; exact q2, by rw [ew]; exact q3⟩
  obtain ⟨m, q1, q2, q3⟩ := key (μ s0 + 1) s0 h0 (Nat.lt_succ_self _)
  have z := k _ q2 q3
  rw [← whileV_eq q1] at z
  with_unfolding_all exact ⟨⟨⟨m, q1⟩, z.1⟩, z.2⟩
end Sp
end Mt
set_option Elab.async false
set_option linter.all false
set_option maxHeartbeats 1000000
namespace Mt
open Dn (Lp Lp.step Lp.fin Lp.done Lp.onGo Lp.then whileLV whileLN AllWL OkWL EndWL whileLV_eq)
namespace Rn
variable {α β S ρ T : Type}
@[irreducible] noncomputable def wlF (c : S → Rn Bool) (f : S → Rn (Lp S ρ)) (s0 : S) (K : S → Rn ρ) : Rn ρ := ⟨AllWL (fun s => (c s).ok) (fun s => (f s).ok) (fun s => (c s).val) (fun s => (f s).val) s0 ∧ (whileLV (fun s => (c s).val) (fun s => (f s).val) s0).done (fun q => (K q).ok), (whileLV (fun s => (c s).val) (fun s => (f s).val) s0).fin fun q => (K q).val⟩
@[irreducible] noncomputable def wlFE (c : S → Rn Bool) (f : S → Rn (Lp S ρ)) (s0 : S) (K : S → Rn ρ) : Rn ρ := ⟨AllWL (fun s => (c s).ok) (fun s => (f s).ok) (fun s => (c s).val) (fun s => (f s).val) s0 ∧ True, (whileLV (fun s => (c s).val) (fun s => (f s).val) s0).fin fun q => (K q).val⟩
@[irreducible] noncomputable def wlT (c : S → Rn Bool) (f : S → Rn (Lp S ρ)) (s0 : S) (K : S → Rn (Lp T ρ)) : Rn (Lp T ρ) := ⟨AllWL (fun s => (c s).ok) (fun s => (f s).ok) (fun s => (c s).val) (fun s => (f s).val) s0 ∧ (whileLV (fun s => (c s).val) (fun s => (f s).val) s0).done (fun q => (K q).ok), (whileLV (fun s => (c s).val) (fun s => (f s).val) s0).then fun q => (K q).val⟩
@[irreducible] noncomputable def wlTE (c : S → Rn Bool) (f : S → Rn (Lp S ρ)) (s0 : S) (K : S → Rn (Lp T ρ)) : Rn (Lp T ρ) := ⟨AllWL (fun s => (c s).ok) (fun s => (f s).ok) (fun s => (c s).val) (fun s => (f s).val) s0 ∧ True, (whileLV (fun s => (c s).val) (fun s => (f s).val) s0).then fun q => (K q).val⟩
end Rn
namespace Sp
variable {α β S ρ T : Type}
theorem wloop {c : S → Rn Bool} {f : S → Rn (Lp S ρ)} {s0 : S} (I : S → Prop) (μ : S → Nat) (J : S → Prop) (R : ρ → Prop) (h0 : I s0) (hc : ∀ s, I s → (c s).ok) (hs : ∀ s, I s → (c s).val = true → Sp (f s) (LpQ (fun s' => I s' ∧ μ s' < μ s) J R)) :
    AllWL (fun s => (c s).ok) (fun s => (f s).ok) (fun s => (c s).val) (fun s => (f s).val) s0 ∧ LpQ (fun s => I s ∧ (c s).val = false) J R (whileLV (fun s => (c s).val) (fun s => (f s).val) s0) := by
  have key : ∀ (n : Nat) (s : S), I s → μ s < n → ∃ m, OkWL (fun s => (c s).ok) (fun s => (f s).ok) (fun s => (c s).val) (fun s => (f s).val) m s ∧ LpQ (fun s => I s ∧ (c s).val = false) J R (whileLN (fun s => (c s).val) (fun s => (f s).val) m s) := by
    intro n
    induction n with
    | zero => intro s _ h; omega
    | succ n ih =>
      intro s hI hm
      cases e : (c s).val with
      | false => exact ⟨0, ⟨hc s hI, e⟩, hI, e⟩
      | true =>
        have h1 := hs s hI e
        have ew : ∀ m, whileLN (fun s => (c s).val) (fun s => (f s).val) (m + 1) s = (f s).val.step (fun s' => whileLN (fun s => (c s).val) (fun s => (f s).val) m s') := fun m => by
          show (bif (c s).val then _ else _) = _
          rw [e]; rfl
        cases r : (f s).val with
        | go s' =>
          have h2 := h1.2
          rw [r] at h2
          obtain ⟨m, q1, q2⟩ := ih s' h2.1 (by have := h2.2; omega)
          refine ⟨m + 1, ⟨hc s hI, fun _ => ⟨h1.1, by show Lp.onGo (f s).val _; rw [r]; exact q1⟩⟩, by rw [ew, r]; exact q2⟩
        | stop s' =>
          have h2 := h1.2
          rw [r] at h2
          exact ⟨1, ⟨hc s hI, fun _ => ⟨h1.1, by show Lp.onGo (f s).val _; rw [r]; trivial⟩⟩, by rw [ew, r]; exact h2⟩
        | ret x =>
          have h2 := h1.2
          rw [r] at h2
          exact ⟨1, ⟨hc s hI, fun _ => ⟨h1.1, by show Lp.onGo (f s).val _; rw [r]; trivial⟩⟩, by rw [ew, r]; exact h2⟩
  obtain ⟨m, q1, q2⟩ := key (μ s0 + 1) s0 h0 (Nat.lt_succ_self _)
  exact ⟨⟨m, q1⟩, by rw [whileLV_eq q1]; exact q2⟩
section
variable {c : S → Rn Bool} {f : S → Rn (Lp S ρ)} {s0 : S} {Pr : ρ → Prop}
theorem wlF {K : S → Rn ρ} (I : S → Prop) (μ : S → Nat) (J : S → Prop) (h0 : I s0) (hc : ∀ s, I s → (c s).ok) (hs : ∀ s, I s → (c s).val = true → Sp (f s) (LpQ (fun s' => I s' ∧ μ s' < μ s) J Pr)) (k : ∀ s, (I s ∧ (c s).val = false) ∨ J s → Sp (K s) Pr) : Sp (Rn.wlF c f s0 K) Pr := by
  obtain ⟨a, b⟩ := wloop I μ J Pr h0 hc hs
  with_unfolding_all show (_ ∧ Lp.done (whileLV _ _ _) _) ∧ Pr (Lp.fin (whileLV _ _ _) _)
  generalize whileLV _ _ _ = r at *
  cases r with
  | go s => with_unfolding_all exact ⟨⟨a, (k s (.inl b)).1⟩, (k s (.inl b)).2⟩
  | stop s => with_unfolding_all exact ⟨⟨a, (k s (.inr b)).1⟩, (k s (.inr b)).2⟩
  | ret x => with_unfolding_all exact ⟨⟨a, trivial⟩, b⟩
theorem wlFE {K : S → Rn ρ} (I : S → Prop) (μ : S → Nat) (J : S → Prop) (h0 : I s0) (hc : ∀ s, I s → (c s).ok) (hs : ∀ s, I s → (c s).val = true → Sp (f s) (LpQ (fun s' => I s' ∧ μ s' < μ s) J Pr)) (k : ∀ s, (I s ∧ (c s).val = false) ∨ J s → Sp (K s) Pr) : Sp (Rn.wlFE c f s0 K) Pr := by
  have := wlF I μ J h0 hc hs k
  with_unfolding_all exact ⟨⟨this.1.1, trivial⟩, this.2⟩
theorem wlT {K : S → Rn (Lp T ρ)} {PT : Lp T ρ → Prop} (I : S → Prop) (μ : S → Nat) (J : S → Prop) (R : ρ → Prop) (h0 : I s0) (hc : ∀ s, I s → (c s).ok) (hs : ∀ s, I s → (c s).val = true → Sp (f s) (LpQ (fun s' => I s' ∧ μ s' < μ s) J R)) (k : ∀ s, (I s ∧ (c s).val = false) ∨ J s → Sp (K s) PT) (kr : ∀ x, R x → PT (.ret x)) : Sp (Rn.wlT c f s0 K) PT := by
  obtain ⟨a, b⟩ := wloop I μ J R h0 hc hs
  with_unfolding_all show (_ ∧ Lp.done (whileLV _ _ _) _) ∧ PT (Lp.then (whileLV _ _ _) _)
  generalize whileLV _ _ _ = r at *
  cases r with
  | go s => with_unfolding_all exact ⟨⟨a, (k s (.inl b)).1⟩, (k s (.inl b)).2⟩
  | stop s => with_unfolding_all exact ⟨⟨a, (k s (.inr b)).1⟩, (k s (.inr b)).2⟩
  | ret x => with_unfolding_all exact ⟨⟨a, trivial⟩, kr _ b⟩
theorem wlTE {K : S → Rn (Lp T ρ)} {PT : Lp T ρ → Prop} (I : S → Prop) (μ : S → Nat) (J : S → Prop) (R : ρ → Prop) (h0 : I s0) (hc : ∀ s, I s → (c s).ok) (hs : ∀ s, I s → (c s).val = true → Sp (f s) (LpQ (fun s' => I s' ∧ μ s' < μ s) J R)) (k : ∀ s, (I s ∧ (c s).val = false) ∨ J s → Sp (K s) PT) (kr : ∀ x, R x → PT (.ret x)) : Sp (Rn.wlTE c f s0 K) PT := by
  have := wlT I μ J R h0 hc hs k kr
  with_unfolding_all exact ⟨⟨this.1.1, trivial⟩, this.2⟩
end
end Sp
end Mt
set_option Elab.async false
set_option linter.all false
set_option maxRecDepth 100000
set_option maxHeartbeats 20000000
namespace Wk
open PySem PySem.Spec PyProof.Rows L2 TL Dn
instance iuInh {α β : Type} [Inhabited α] : Inhabited (α ⊕ β) := ⟨.inl default⟩
noncomputable section
def m__law_box_19 (x22_law_cell : Int) (x23_law_seed : Int) : (List Int) := ([(Dn.get (default : Int) ([(0 : Int), x22_law_cell] : List Int) (b2z (decide (((10 : Int) ^ Int.toNat (18 : Int)) ≤ x22_law_cell)))), x23_law_seed] : List Int)
def ok__law_box_19 (x22_law_cell : Int) (x23_law_seed : Int) : Prop := ((IxOk (([(0 : Int), x22_law_cell] : List Int)).length (b2z (decide (((10 : Int) ^ Int.toNat (18 : Int)) ≤ x22_law_cell)))) ∧ True)
def m__law_box_14 (x16_law_k : Int) (x17_law_cell : Int) : (List Int) := (m__law_box_19 (x17_law_cell) ((((((x17_law_cell % (2147483629 : Int)) * (48271 : Int)) + ((40692 : Int) * x16_law_k)) % (2147483629 : Int)) + (1 : Int))))
def ok__law_box_14 (x16_law_k : Int) (x17_law_cell : Int) : Prop := ((MulOk (x17_law_cell % (2147483629 : Int)) (48271 : Int)) ∧ ((MulOk (40692 : Int) x16_law_k) ∧ (ok__law_box_19 (x17_law_cell) ((((((x17_law_cell % (2147483629 : Int)) * (48271 : Int)) + ((40692 : Int) * x16_law_k)) % (2147483629 : Int)) + (1 : Int))))))
def m__law_box_1 (x2_law_script : (List Int)) (x3_law_k : Int) (x4_law_cell : Int) : (List Int) := (let j12 := (bif (decide (x3_law_k < ((x2_law_script).length : Int))) then (Dn.get 0 x2_law_script x3_law_k) else (let j10 := (bif (decide ((0 : Int) < ((x2_law_script).length : Int))) then (x4_law_cell + (((Dn.get 0 x2_law_script (x3_law_k % ((x2_law_script).length : Int))) % (2147483629 : Int)) * (69623 : Int))) else x4_law_cell); j10)); (m__law_box_14 (x3_law_k) (j12)))
def ok__law_box_1 (x2_law_script : (List Int)) (x3_law_k : Int) (x4_law_cell : Int) : Prop := (((decide (x3_law_k < ((x2_law_script).length : Int))) = true → ((IxOk (x2_law_script).length x3_law_k) ∧ True)) ∧ (((decide (x3_law_k < ((x2_law_script).length : Int))) = false → (((decide ((0 : Int) < ((x2_law_script).length : Int))) = true → (((0:Int) < ((x2_law_script).length : Int)) ∧ ((IxOk (x2_law_script).length (x3_law_k % ((x2_law_script).length : Int))) ∧ ((MulOk ((Dn.get 0 x2_law_script (x3_law_k % ((x2_law_script).length : Int))) % (2147483629 : Int)) (69623 : Int)) ∧ True)))) ∧ True)) ∧ (let j12 := (bif (decide (x3_law_k < ((x2_law_script).length : Int))) then (Dn.get 0 x2_law_script x3_law_k) else (let j10 := (bif (decide ((0 : Int) < ((x2_law_script).length : Int))) then (x4_law_cell + (((Dn.get 0 x2_law_script (x3_law_k % ((x2_law_script).length : Int))) % (2147483629 : Int)) * (69623 : Int))) else x4_law_cell); j10)); (ok__law_box_14 (x3_law_k) (j12)))))
def m__law_box (x_law_script : (List Int)) (x_law_k : Int) : (List Int) := (m__law_box_1 (x_law_script) (x_law_k) ((((7919 : Int) * x_law_k) + (11 : Int))))
def ok__law_box (x_law_script : (List Int)) (x_law_k : Int) : Prop := ((MulOk (7919 : Int) x_law_k) ∧ (ok__law_box_1 (x_law_script) (x_law_k) ((((7919 : Int) * x_law_k) + (11 : Int)))))
def m__law_take_7 (x8_law_box_here : (List Int)) (x10_law_digit : Int) : (Int × List Int) := (x10_law_digit, x8_law_box_here)
def ok__law_take_7 (x8_law_box_here : (List Int)) (x10_law_digit : Int) : Prop := True
def m__law_take_2 (x3_law_box_here : (List Int)) (x4_law_many : Int) (x5_law_digit : Int) : (Int × List Int) := (m__law_take_7 (((x3_law_box_here).set (ix (x3_law_box_here).length (0 : Int)) ((Dn.get (default : Int) x3_law_box_here (0 : Int)) / x4_law_many))) (x5_law_digit))
def ok__law_take_2 (x3_law_box_here : (List Int)) (x4_law_many : Int) (x5_law_digit : Int) : Prop := ((IxOk (x3_law_box_here).length (0 : Int)) ∧ ((DivOk x4_law_many) ∧ ((IxOk (x3_law_box_here).length (0 : Int)) ∧ (ok__law_take_7 (((x3_law_box_here).set (ix (x3_law_box_here).length (0 : Int)) ((Dn.get (default : Int) x3_law_box_here (0 : Int)) / x4_law_many))) (x5_law_digit)))))
def m__law_take_22 (x23_law_box_here : (List Int)) (x24_law_many : Int) (x25_law_one : Int) : (Int × List Int) := (((((x25_law_one * (2147483647 : Int)) + (Dn.get (default : Int) x23_law_box_here (1 : Int))) / (8191 : Int)) % x24_law_many), x23_law_box_here)
def ok__law_take_22 (x23_law_box_here : (List Int)) (x24_law_many : Int) (x25_law_one : Int) : Prop := ((MulOk x25_law_one (2147483647 : Int)) ∧ ((IxOk (x23_law_box_here).length (1 : Int)) ∧ (((0:Int) < x24_law_many) ∧ True)))
def m__law_take_17 (x18_law_box_here : (List Int)) (x19_law_many : Int) (x20_law_one : Int) : (Int × List Int) := (m__law_take_22 (((x18_law_box_here).set (ix (x18_law_box_here).length (1 : Int)) ((((x20_law_one * (48271 : Int)) + (30103 : Int)) % (2147483629 : Int)) + (1 : Int)))) (x19_law_many) (x20_law_one))
def ok__law_take_17 (x18_law_box_here : (List Int)) (x19_law_many : Int) (x20_law_one : Int) : Prop := ((MulOk x20_law_one (48271 : Int)) ∧ ((IxOk (x18_law_box_here).length (1 : Int)) ∧ (ok__law_take_22 (((x18_law_box_here).set (ix (x18_law_box_here).length (1 : Int)) ((((x20_law_one * (48271 : Int)) + (30103 : Int)) % (2147483629 : Int)) + (1 : Int)))) (x19_law_many) (x20_law_one))))
def m__law_take (x_law_box_here : (List Int)) (x_law_many : Int) : (Int × List Int) := (bif (decide ((0 : Int) < (Dn.get (default : Int) x_law_box_here (0 : Int)))) then (m__law_take_2 (x_law_box_here) (x_law_many) (((Dn.get (default : Int) x_law_box_here (0 : Int)) % x_law_many))) else (m__law_take_17 (x_law_box_here) (x_law_many) ((((Dn.get (default : Int) x_law_box_here (1 : Int)) * (69623 : Int)) % (2147483647 : Int)))))
def ok__law_take (x_law_box_here : (List Int)) (x_law_many : Int) : Prop := ((IxOk (x_law_box_here).length (0 : Int)) ∧ (((decide ((0 : Int) < (Dn.get (default : Int) x_law_box_here (0 : Int)))) = true → ((IxOk (x_law_box_here).length (0 : Int)) ∧ (((0:Int) < x_law_many) ∧ (ok__law_take_2 (x_law_box_here) (x_law_many) (((Dn.get (default : Int) x_law_box_here (0 : Int)) % x_law_many)))))) ∧ (((decide ((0 : Int) < (Dn.get (default : Int) x_law_box_here (0 : Int)))) = false → ((IxOk (x_law_box_here).length (1 : Int)) ∧ ((MulOk (Dn.get (default : Int) x_law_box_here (1 : Int)) (69623 : Int)) ∧ (ok__law_take_17 (x_law_box_here) (x_law_many) ((((Dn.get (default : Int) x_law_box_here (1 : Int)) * (69623 : Int)) % (2147483647 : Int))))))) ∧ True)))
def m__law_caught (x_law_k : Int) (x_law_number : Int) : (Nat × Int) := (Int.toNat x_law_k, exVal x_law_k x_law_number)
def ok__law_caught (x_law_k : Int) (x_law_number : Int) : Prop := (((0 : Int) ≤ x_law_k ∧ x_law_k ≤ 5) ∧ True)
def m__law_kinds (x_law_e : (Nat × Int)) : (List Bool) := ([(decide ((x_law_e).1 = 0)), (decide ((x_law_e).1 = 1)), (decide ((x_law_e).1 = 2)), (decide ((x_law_e).1 = 3)), (decide ((x_law_e).1 = 4)), (decide ((x_law_e).1 = 5))] : List Bool)
def ok__law_kinds (x_law_e : (Nat × Int)) : Prop := (((x_law_e).1 ≤ 5) ∧ (((x_law_e).1 ≤ 5) ∧ (((x_law_e).1 ≤ 5) ∧ (((x_law_e).1 ≤ 5) ∧ (((x_law_e).1 ≤ 5) ∧ (((x_law_e).1 ≤ 5) ∧ True))))))
def m_law_L41  (s42 : Unit) (y43 : (Int × (Nat × Int))) : (Lp Unit Bool) := (bif ((!decide ((m__law_kinds (y43.2)) = (List.map (fun (y51 : Int) => (decide (y51 = (y43.1)))) (rng 0 (6 : Int))))) || (!true)) then (Lp.ret false) else (bif (!true) then (Lp.ret false) else (Lp.go ())))
def ok_law_L41  (s42 : Unit) (y43 : (Int × (Nat × Int))) : Prop := ((ok__law_kinds (y43.2)) ∧ ((RngOk (6 : Int)) ∧ ((Sz ((rng 0 (6 : Int))).length) ∧ (((!decide ((m__law_kinds (y43.2)) = (List.map (fun (y51 : Int) => (decide (y51 = (y43.1)))) (rng 0 (6 : Int))))) = false → ((((y43.2)).1 ≤ 5) ∧ True)) ∧ ((((!decide ((m__law_kinds (y43.2)) = (List.map (fun (y51 : Int) => (decide (y51 = (y43.1)))) (rng 0 (6 : Int))))) || (!true)) = false → ((((y43.2)).1 ≤ 5) ∧ True)) ∧ True)))))
def m_law_L31  (s32 : Unit) (y33 : ((List (Nat × Int)) × Int)) : (Lp Unit Bool) := (bif (!decide ((((Dn.get (default : (Nat × Int)) (y33.1) (0 : Int))).2, ((Dn.get (default : (Nat × Int)) (y33.1) (1 : Int))).2, ((Dn.get (default : (Nat × Int)) (y33.1) (2 : Int))).2, ((Dn.get (default : (Nat × Int)) (y33.1) (3 : Int))).2) = ((y33.2), ((y33.2) - (1 : Int)), (y33.2), ((y33.2) + (1 : Int))))) then (Lp.ret false) else ((loopL m_law_L41 () (enum (y33.1))).then (fun (s59 : Unit) => (Lp.go ()))))
def ok_law_L31  (s32 : Unit) (y33 : ((List (Nat × Int)) × Int)) : Prop := ((IxOk ((y33.1)).length (0 : Int)) ∧ ((((Dn.get (default : (Nat × Int)) (y33.1) (0 : Int))).1 = 0) ∧ ((IxOk ((y33.1)).length (1 : Int)) ∧ ((((Dn.get (default : (Nat × Int)) (y33.1) (1 : Int))).1 = 1) ∧ ((IxOk ((y33.1)).length (2 : Int)) ∧ ((((Dn.get (default : (Nat × Int)) (y33.1) (2 : Int))).1 = 2) ∧ ((IxOk ((y33.1)).length (3 : Int)) ∧ ((((Dn.get (default : (Nat × Int)) (y33.1) (3 : Int))).1 = 3) ∧ (((!decide ((((Dn.get (default : (Nat × Int)) (y33.1) (0 : Int))).2, ((Dn.get (default : (Nat × Int)) (y33.1) (1 : Int))).2, ((Dn.get (default : (Nat × Int)) (y33.1) (2 : Int))).2, ((Dn.get (default : (Nat × Int)) (y33.1) (3 : Int))).2) = ((y33.2), ((y33.2) - (1 : Int)), (y33.2), ((y33.2) + (1 : Int))))) = false → ((AllL ok_law_L41 m_law_L41 () (enum (y33.1))) ∧ True)) ∧ True)))))))))
def m_law_63  : Bool := true
def ok_law_63  : Prop := True
def m_law_25 (x28_law_numbers : (List Int)) (x29_law_made_two : (List (List (Nat × Int)))) : Bool := ((loopL m_law_L31 () (List.zip x29_law_made_two x28_law_numbers)).fin (fun (s62 : Unit) => m_law_63))
def ok_law_25 (x28_law_numbers : (List Int)) (x29_law_made_two : (List (List (Nat × Int)))) : Prop := ((AllL ok_law_L31 m_law_L31 () (List.zip x29_law_made_two x28_law_numbers)) ∧ ((loopL m_law_L31 () (List.zip x29_law_made_two x28_law_numbers)).done (fun (s62 : Unit) => ok_law_63)))
def m_law_16 (x19_law_numbers : (List Int)) : Bool := (m_law_25 (x19_law_numbers) ((List.map (fun (y21 : Int) => (List.map (fun (y23 : Int) => (m__law_caught y23 y21)) (rng 0 (6 : Int)))) x19_law_numbers)))
def ok_law_16 (x19_law_numbers : (List Int)) : Prop := ((Sz (x19_law_numbers).length) ∧ ((∀ y21 ∈ x19_law_numbers, ((RngOk (6 : Int)) ∧ ((Sz ((rng 0 (6 : Int))).length) ∧ ((∀ y23 ∈ (rng 0 (6 : Int)), ((ok__law_caught y23 y21) ∧ True)) ∧ True)))) ∧ (ok_law_25 (x19_law_numbers) ((List.map (fun (y21 : Int) => (List.map (fun (y23 : Int) => (m__law_caught y23 y21)) (rng 0 (6 : Int)))) x19_law_numbers)))))
def m_law_1 (x3_law_box_here : (List Int)) : Bool := (let u14 := mapS (fun (s10 : (List Int)) (y5 : Int) => (let t11 := (m__law_take s10 (9 : Int)); (let t12 := (m__law_take t11.2 ((10 : Int) ^ Int.toNat (12 : Int))); (let t13 := (m__law_take t12.2 (2 : Int)); ((Dn.get (default : Int) ([t11.1, t12.1] : List Int) t13.1), t13.2))))) x3_law_box_here (rng 0 (2 : Int)); (m_law_16 (u14.1)))
def ok_law_1 (x3_law_box_here : (List Int)) : Prop := ((RngOk (2 : Int)) ∧ ((Sz ((rng 0 (2 : Int))).length) ∧ ((AllS (fun (s10 : (List Int)) (y5 : Int) => ((ok__law_take s10 (9 : Int)) ∧ (let t11 := (m__law_take s10 (9 : Int)); ((ok__law_take t11.2 ((10 : Int) ^ Int.toNat (12 : Int))) ∧ (let t12 := (m__law_take t11.2 ((10 : Int) ^ Int.toNat (12 : Int))); ((ok__law_take t12.2 (2 : Int)) ∧ (let t13 := (m__law_take t12.2 (2 : Int)); ((IxOk (([t11.1, t12.1] : List Int)).length t13.1) ∧ True)))))))) (fun (s10 : (List Int)) (y5 : Int) => (let t11 := (m__law_take s10 (9 : Int)); (let t12 := (m__law_take t11.2 ((10 : Int) ^ Int.toNat (12 : Int))); (let t13 := (m__law_take t12.2 (2 : Int)); ((Dn.get (default : Int) ([t11.1, t12.1] : List Int) t13.1), t13.2))))) x3_law_box_here (rng 0 (2 : Int))) ∧ (let u14 := mapS (fun (s10 : (List Int)) (y5 : Int) => (let t11 := (m__law_take s10 (9 : Int)); (let t12 := (m__law_take t11.2 ((10 : Int) ^ Int.toNat (12 : Int))); (let t13 := (m__law_take t12.2 (2 : Int)); ((Dn.get (default : Int) ([t11.1, t12.1] : List Int) t13.1), t13.2))))) x3_law_box_here (rng 0 (2 : Int)); (ok_law_16 (u14.1))))))
def m_law (x_law_script : (List Int)) : Bool := (m_law_1 ((m__law_box x_law_script (0 : Int))))
def ok_law (x_law_script : (List Int)) : Prop := ((ok__law_box x_law_script (0 : Int)) ∧ (ok_law_1 ((m__law_box x_law_script (0 : Int)))))
end
end Wk
set_option Elab.async false
set_option linter.all false
set_option maxRecDepth 100000
set_option maxHeartbeats 20000000
namespace Wk
open PySem PySem.Spec PyProof.Rows L2 TL Dn Mt
noncomputable section
def r__law_box_19 (x22_law_cell : Int) (x23_law_seed : Int) : Rn (List Int) := (Rn.chk (IxOk (([(0 : Int), x22_law_cell] : List Int)).length (b2z (decide (((10 : Int) ^ Int.toNat (18 : Int)) ≤ x22_law_cell)))) (Rn.pure ([(Dn.get (default : Int) ([(0 : Int), x22_law_cell] : List Int) (b2z (decide (((10 : Int) ^ Int.toNat (18 : Int)) ≤ x22_law_cell)))), x23_law_seed] : List Int)))
theorem e__law_box_19 (x22_law_cell : Int) (x23_law_seed : Int) : r__law_box_19 x22_law_cell x23_law_seed = ⟨ok__law_box_19 x22_law_cell x23_law_seed, m__law_box_19 x22_law_cell x23_law_seed⟩ := by
  unfold r__law_box_19 ok__law_box_19 m__law_box_19
  simp only [Rn.chk, Rn.pure]
  all_goals with_unfolding_all rfl
def r__law_box_14 (x16_law_k : Int) (x17_law_cell : Int) : Rn (List Int) := (Rn.chk (MulOk (x17_law_cell % (2147483629 : Int)) (48271 : Int)) (Rn.chk (MulOk (40692 : Int) x16_law_k) (r__law_box_19 (x17_law_cell) ((((((x17_law_cell % (2147483629 : Int)) * (48271 : Int)) + ((40692 : Int) * x16_law_k)) % (2147483629 : Int)) + (1 : Int))))))
theorem e__law_box_14 (x16_law_k : Int) (x17_law_cell : Int) : r__law_box_14 x16_law_k x17_law_cell = ⟨ok__law_box_14 x16_law_k x17_law_cell, m__law_box_14 x16_law_k x17_law_cell⟩ := by
  unfold r__law_box_14 ok__law_box_14 m__law_box_14
  simp only [e__law_box_19, Rn.chk]
  all_goals with_unfolding_all rfl
def r__law_box_1 (x2_law_script : (List Int)) (x3_law_k : Int) (x4_law_cell : Int) : Rn (List Int) := (Rn.brTF (decide (x3_law_k < ((x2_law_script).length : Int))) (Rn.chk (IxOk (x2_law_script).length x3_law_k) (Rn.pure (Dn.get 0 x2_law_script x3_law_k))) (Rn.brT (decide ((0 : Int) < ((x2_law_script).length : Int))) (Rn.chk ((0:Int) < ((x2_law_script).length : Int)) (Rn.chk (IxOk (x2_law_script).length (x3_law_k % ((x2_law_script).length : Int))) (Rn.chk (MulOk ((Dn.get 0 x2_law_script (x3_law_k % ((x2_law_script).length : Int))) % (2147483629 : Int)) (69623 : Int)) (Rn.pure (x4_law_cell + (((Dn.get 0 x2_law_script (x3_law_k % ((x2_law_script).length : Int))) % (2147483629 : Int)) * (69623 : Int))))))) (Rn.pure x4_law_cell) (fun j10 => (Rn.pure j10))) (fun j12 => (r__law_box_14 (x3_law_k) (j12))))
theorem e__law_box_1 (x2_law_script : (List Int)) (x3_law_k : Int) (x4_law_cell : Int) : r__law_box_1 x2_law_script x3_law_k x4_law_cell = ⟨ok__law_box_1 x2_law_script x3_law_k x4_law_cell, m__law_box_1 x2_law_script x3_law_k x4_law_cell⟩ := by
  unfold r__law_box_1 ok__law_box_1 m__law_box_1
  simp only [e__law_box_14, Rn.brTF, Rn.chk, Rn.pure, Rn.brT]
  all_goals with_unfolding_all rfl
def r__law_box (x_law_script : (List Int)) (x_law_k : Int) : Rn (List Int) := (Rn.chk (MulOk (7919 : Int) x_law_k) (r__law_box_1 (x_law_script) (x_law_k) ((((7919 : Int) * x_law_k) + (11 : Int)))))
theorem e__law_box (x_law_script : (List Int)) (x_law_k : Int) : r__law_box x_law_script x_law_k = ⟨ok__law_box x_law_script x_law_k, m__law_box x_law_script x_law_k⟩ := by
  unfold r__law_box ok__law_box m__law_box
  simp only [e__law_box_1, Rn.chk]
  all_goals with_unfolding_all rfl
def r__law_take_7 (x8_law_box_here : (List Int)) (x10_law_digit : Int) : Rn (Int × List Int) := (Rn.pure (x10_law_digit, x8_law_box_here))
theorem e__law_take_7 (x8_law_box_here : (List Int)) (x10_law_digit : Int) : r__law_take_7 x8_law_box_here x10_law_digit = ⟨ok__law_take_7 x8_law_box_here x10_law_digit, m__law_take_7 x8_law_box_here x10_law_digit⟩ := by
  unfold r__law_take_7 ok__law_take_7 m__law_take_7
  simp only [Rn.pure]
  all_goals with_unfolding_all rfl
def r__law_take_2 (x3_law_box_here : (List Int)) (x4_law_many : Int) (x5_law_digit : Int) : Rn (Int × List Int) := (Rn.chk (IxOk (x3_law_box_here).length (0 : Int)) (Rn.chk (DivOk x4_law_many) (Rn.chk (IxOk (x3_law_box_here).length (0 : Int)) (r__law_take_7 (((x3_law_box_here).set (ix (x3_law_box_here).length (0 : Int)) ((Dn.get (default : Int) x3_law_box_here (0 : Int)) / x4_law_many))) (x5_law_digit)))))
theorem e__law_take_2 (x3_law_box_here : (List Int)) (x4_law_many : Int) (x5_law_digit : Int) : r__law_take_2 x3_law_box_here x4_law_many x5_law_digit = ⟨ok__law_take_2 x3_law_box_here x4_law_many x5_law_digit, m__law_take_2 x3_law_box_here x4_law_many x5_law_digit⟩ := by
  unfold r__law_take_2 ok__law_take_2 m__law_take_2
  simp only [e__law_take_7, Rn.chk]
  all_goals with_unfolding_all rfl
def r__law_take_22 (x23_law_box_here : (List Int)) (x24_law_many : Int) (x25_law_one : Int) : Rn (Int × List Int) := (Rn.chk (MulOk x25_law_one (2147483647 : Int)) (Rn.chk (IxOk (x23_law_box_here).length (1 : Int)) (Rn.chk ((0:Int) < x24_law_many) (Rn.pure (((((x25_law_one * (2147483647 : Int)) + (Dn.get (default : Int) x23_law_box_here (1 : Int))) / (8191 : Int)) % x24_law_many), x23_law_box_here)))))
theorem e__law_take_22 (x23_law_box_here : (List Int)) (x24_law_many : Int) (x25_law_one : Int) : r__law_take_22 x23_law_box_here x24_law_many x25_law_one = ⟨ok__law_take_22 x23_law_box_here x24_law_many x25_law_one, m__law_take_22 x23_law_box_here x24_law_many x25_law_one⟩ := by
  unfold r__law_take_22 ok__law_take_22 m__law_take_22
  simp only [Rn.chk, Rn.pure]
  all_goals with_unfolding_all rfl
def r__law_take_17 (x18_law_box_here : (List Int)) (x19_law_many : Int) (x20_law_one : Int) : Rn (Int × List Int) := (Rn.chk (MulOk x20_law_one (48271 : Int)) (Rn.chk (IxOk (x18_law_box_here).length (1 : Int)) (r__law_take_22 (((x18_law_box_here).set (ix (x18_law_box_here).length (1 : Int)) ((((x20_law_one * (48271 : Int)) + (30103 : Int)) % (2147483629 : Int)) + (1 : Int)))) (x19_law_many) (x20_law_one))))
theorem e__law_take_17 (x18_law_box_here : (List Int)) (x19_law_many : Int) (x20_law_one : Int) : r__law_take_17 x18_law_box_here x19_law_many x20_law_one = ⟨ok__law_take_17 x18_law_box_here x19_law_many x20_law_one, m__law_take_17 x18_law_box_here x19_law_many x20_law_one⟩ := by
  unfold r__law_take_17 ok__law_take_17 m__law_take_17
  simp only [e__law_take_22, Rn.chk]
  all_goals with_unfolding_all rfl
def r__law_take (x_law_box_here : (List Int)) (x_law_many : Int) : Rn (Int × List Int) := (Rn.chk (IxOk (x_law_box_here).length (0 : Int)) (Rn.ifTF (decide ((0 : Int) < (Dn.get (default : Int) x_law_box_here (0 : Int)))) (Rn.chk (IxOk (x_law_box_here).length (0 : Int)) (Rn.chk ((0:Int) < x_law_many) (r__law_take_2 (x_law_box_here) (x_law_many) (((Dn.get (default : Int) x_law_box_here (0 : Int)) % x_law_many))))) (Rn.chk (IxOk (x_law_box_here).length (1 : Int)) (Rn.chk (MulOk (Dn.get (default : Int) x_law_box_here (1 : Int)) (69623 : Int)) (r__law_take_17 (x_law_box_here) (x_law_many) ((((Dn.get (default : Int) x_law_box_here (1 : Int)) * (69623 : Int)) % (2147483647 : Int))))))))
theorem e__law_take (x_law_box_here : (List Int)) (x_law_many : Int) : r__law_take x_law_box_here x_law_many = ⟨ok__law_take x_law_box_here x_law_many, m__law_take x_law_box_here x_law_many⟩ := by
  unfold r__law_take ok__law_take m__law_take
  simp only [e__law_take_2, e__law_take_17, Rn.chk, Rn.ifTF]
  all_goals with_unfolding_all rfl
def r__law_caught (x_law_k : Int) (x_law_number : Int) : Rn (Nat × Int) := (Rn.chk ((0 : Int) ≤ x_law_k ∧ x_law_k ≤ 5) (Rn.pure (Int.toNat x_law_k, exVal x_law_k x_law_number)))
def r__law_kinds (x_law_e : (Nat × Int)) : Rn (List Bool) := (Rn.chk ((x_law_e).1 ≤ 5) (Rn.chk ((x_law_e).1 ≤ 5) (Rn.chk ((x_law_e).1 ≤ 5) (Rn.chk ((x_law_e).1 ≤ 5) (Rn.chk ((x_law_e).1 ≤ 5) (Rn.chk ((x_law_e).1 ≤ 5) (Rn.pure ([(decide ((x_law_e).1 = 0)), (decide ((x_law_e).1 = 1)), (decide ((x_law_e).1 = 2)), (decide ((x_law_e).1 = 3)), (decide ((x_law_e).1 = 4)), (decide ((x_law_e).1 = 5))] : List Bool))))))))
theorem e__law_kinds (x_law_e : (Nat × Int)) : r__law_kinds x_law_e = ⟨ok__law_kinds x_law_e, m__law_kinds x_law_e⟩ := by
  unfold r__law_kinds ok__law_kinds m__law_kinds
  simp only [Rn.chk, Rn.pure]
  all_goals with_unfolding_all rfl
def r_law_L41  (s42 : Unit) (y43 : (Int × (Nat × Int))) : Rn (Lp Unit Bool) := (Rn.bind (r__law_kinds (y43.2)) (fun w1 => (Rn.chk (RngOk (6 : Int)) (Rn.chk (Sz ((rng 0 (6 : Int))).length) (Rn.chk ((!decide (w1 = (List.map (fun (y51 : Int) => (decide (y51 = (y43.1)))) (rng 0 (6 : Int))))) = false → ((((y43.2)).1 ≤ 5) ∧ True)) (Rn.ifF ((!decide (w1 = (List.map (fun (y51 : Int) => (decide (y51 = (y43.1)))) (rng 0 (6 : Int))))) || (!true)) (Rn.pure (Lp.ret false)) (Rn.chk (((y43.2)).1 ≤ 5) (Rn.if (!true) (Rn.pure (Lp.ret false)) (Rn.pure (Lp.go ()))))))))))
theorem e_law_L41  (s42 : Unit) (y43 : (Int × (Nat × Int))) : r_law_L41 s42 y43 = ⟨ok_law_L41 s42 y43, m_law_L41 s42 y43⟩ := by
  unfold r_law_L41 ok_law_L41 m_law_L41
  simp only [e__law_kinds, Rn.bind, Rn.chk, Rn.ifF, Rn.pure, Rn.if]
  all_goals with_unfolding_all rfl
def r_law_L31  (s32 : Unit) (y33 : ((List (Nat × Int)) × Int)) : Rn (Lp Unit Bool) := (Rn.chk (IxOk ((y33.1)).length (0 : Int)) (Rn.chk (((Dn.get (default : (Nat × Int)) (y33.1) (0 : Int))).1 = 0) (Rn.chk (IxOk ((y33.1)).length (1 : Int)) (Rn.chk (((Dn.get (default : (Nat × Int)) (y33.1) (1 : Int))).1 = 1) (Rn.chk (IxOk ((y33.1)).length (2 : Int)) (Rn.chk (((Dn.get (default : (Nat × Int)) (y33.1) (2 : Int))).1 = 2) (Rn.chk (IxOk ((y33.1)).length (3 : Int)) (Rn.chk (((Dn.get (default : (Nat × Int)) (y33.1) (3 : Int))).1 = 3) (Rn.ifF (!decide ((((Dn.get (default : (Nat × Int)) (y33.1) (0 : Int))).2, ((Dn.get (default : (Nat × Int)) (y33.1) (1 : Int))).2, ((Dn.get (default : (Nat × Int)) (y33.1) (2 : Int))).2, ((Dn.get (default : (Nat × Int)) (y33.1) (3 : Int))).2) = ((y33.2), ((y33.2) - (1 : Int)), (y33.2), ((y33.2) + (1 : Int))))) (Rn.pure (Lp.ret false)) (Rn.lpTE (fun (s42 : Unit) (y43 : (Int × (Nat × Int))) => (r_law_L41  s42 y43)) () (enum (y33.1)) (fun (s59 : Unit) => (Rn.pure (Lp.go ())))))))))))))
theorem e_law_L31  (s32 : Unit) (y33 : ((List (Nat × Int)) × Int)) : r_law_L31 s32 y33 = ⟨ok_law_L31 s32 y33, m_law_L31 s32 y33⟩ := by
  unfold r_law_L31 ok_law_L31 m_law_L31
  simp only [e_law_L41, Rn.chk, Rn.ifF, Rn.pure, Rn.lpTE]
  all_goals with_unfolding_all rfl
def r_law_63  : Rn Bool := (Rn.pure true)
theorem e_law_63  : r_law_63  = ⟨ok_law_63 , m_law_63 ⟩ := by
  unfold r_law_63 ok_law_63 m_law_63
  simp only [Rn.pure]
  all_goals with_unfolding_all rfl
def r_law_25 (x28_law_numbers : (List Int)) (x29_law_made_two : (List (List (Nat × Int)))) : Rn Bool := (Rn.lpF (fun (s32 : Unit) (y33 : ((List (Nat × Int)) × Int)) => (r_law_L31  s32 y33)) () (List.zip x29_law_made_two x28_law_numbers) (fun (s62 : Unit) => r_law_63))
theorem e_law_25 (x28_law_numbers : (List Int)) (x29_law_made_two : (List (List (Nat × Int)))) : r_law_25 x28_law_numbers x29_law_made_two = ⟨ok_law_25 x28_law_numbers x29_law_made_two, m_law_25 x28_law_numbers x29_law_made_two⟩ := by
  unfold r_law_25 ok_law_25 m_law_25
  simp only [e_law_L31, e_law_63, Rn.lpF]
  all_goals with_unfolding_all rfl
def r_law_16 (x19_law_numbers : (List Int)) : Rn Bool := (Rn.chk (Sz (x19_law_numbers).length) (Rn.chk (∀ y21 ∈ x19_law_numbers, ((RngOk (6 : Int)) ∧ ((Sz ((rng 0 (6 : Int))).length) ∧ ((∀ y23 ∈ (rng 0 (6 : Int)), ((ok__law_caught y23 y21) ∧ True)) ∧ True)))) (r_law_25 (x19_law_numbers) ((List.map (fun (y21 : Int) => (List.map (fun (y23 : Int) => (m__law_caught y23 y21)) (rng 0 (6 : Int)))) x19_law_numbers)))))
theorem e_law_16 (x19_law_numbers : (List Int)) : r_law_16 x19_law_numbers = ⟨ok_law_16 x19_law_numbers, m_law_16 x19_law_numbers⟩ := by
  unfold r_law_16 ok_law_16 m_law_16
  simp only [e_law_25, Rn.chk]
  all_goals with_unfolding_all rfl
def r_law_1 (x3_law_box_here : (List Int)) : Rn Bool := (Rn.chk (RngOk (2 : Int)) (Rn.chk (Sz ((rng 0 (2 : Int))).length) (Rn.maps (fun (s10 : (List Int)) (y5 : Int) => (Rn.bind (r__law_take s10 (9 : Int)) (fun t11 => (Rn.bind (r__law_take t11.2 ((10 : Int) ^ Int.toNat (12 : Int))) (fun t12 => (Rn.bind (r__law_take t12.2 (2 : Int)) (fun t13 => (Rn.chk (IxOk (([t11.1, t12.1] : List Int)).length t13.1) (Rn.pure ((Dn.get (default : Int) ([t11.1, t12.1] : List Int) t13.1), t13.2)))))))))) x3_law_box_here (rng 0 (2 : Int)) (fun u14 => (r_law_16 (u14.1))))))
theorem e_law_1 (x3_law_box_here : (List Int)) : r_law_1 x3_law_box_here = ⟨ok_law_1 x3_law_box_here, m_law_1 x3_law_box_here⟩ := by
  unfold r_law_1 ok_law_1 m_law_1
  simp only [e__law_take, e_law_16, Rn.chk, Rn.maps, Rn.bind, Rn.pure]
  all_goals with_unfolding_all rfl
def r_law (x_law_script : (List Int)) : Rn Bool := (Rn.bind (r__law_box x_law_script (0 : Int)) (fun w2 => (r_law_1 (w2))))
theorem e_law (x_law_script : (List Int)) : r_law x_law_script = ⟨ok_law x_law_script, m_law x_law_script⟩ := by
  unfold r_law ok_law m_law
  simp only [e__law_box, e_law_1, Rn.bind]
  all_goals with_unfolding_all rfl
end
end Wk
set_option Elab.async false
set_option linter.all false
set_option maxRecDepth 100000
set_option maxHeartbeats 20000000
namespace Wk
open PySem PySem.Spec PyProof.Rows L2 TL Dn
variable [Tb0]
def top (i : Nat) : Stmt := PySem.Challenge.pw_walktold_k03_refusals.main.body.getD i (.Pass ⟨0, 0, 0, 0⟩)
structure Bt (mg : Str → Option Value) : Prop where
  z_ValueError : mg "ValueError" = none
  z_enumerate : mg "enumerate" = none
  z_int : mg "int" = none
  z_isinstance : mg "isinstance" = none
  z_len : mg "len" = none
  z_range : mg "range" = none
  z_zip : mg "zip" = none
def clsB : Stmt → List Stmt
  | .ClassDef _ _ _ b _ _ _ _ _ _ _ => b
  | _ => []
abbrev st_init0 : Stmt := (clsB (top 2)).getD 0 (.Pass ⟨0, 0, 0, 0⟩)
theorem sc_init0 : FnScope [("self" : Str), "at"] ["self", "at"] (defScope st_init0) := ⟨rfl, rfl, rfl, by decide +kernel, rfl, by decide +kernel, by decide +kernel⟩
theorem w_init0 {P : Program} {w : World} {K : PySem.W.Frag} {mg : Str → Option Value} {base : Heap} {qual : Str} {f : Addr} {fd : FuncData} {C CW : Addr} (F : Fun K "__init__" qual st_init0 f fd) (hB : BaseK K CW) (gW : mg "WalkError" = some (.ref CW)) : FnOk P w K mg base (L2.CX P w) 1 f fd ["self", "at"] (sp_xinit K C "at") :=
  w_xinit (bn := "WalkError") F sc_init0 hB gW (by decide) rfl (fun X h => by unfold Gl Env.kindOf; rw [h]; rfl) (fun X h => by rw [h]; exact ⟨.inl rfl, .inl rfl⟩) (by decide) (by decide) (fun env h => ⟨_, rfl⟩)
abbrev st_init1 : Stmt := (clsB (top 3)).getD 0 (.Pass ⟨0, 0, 0, 0⟩)
theorem sc_init1 : FnScope [("self" : Str), "at"] ["self", "at"] (defScope st_init1) := ⟨rfl, rfl, rfl, by decide +kernel, rfl, by decide +kernel, by decide +kernel⟩
theorem w_init1 {P : Program} {w : World} {K : PySem.W.Frag} {mg : Str → Option Value} {base : Heap} {qual : Str} {f : Addr} {fd : FuncData} {C CW : Addr} (F : Fun K "__init__" qual st_init1 f fd) (hB : BaseK K CW) (gW : mg "WalkError" = some (.ref CW)) : FnOk P w K mg base (L2.CX P w) 1 f fd ["self", "at"] (sp_xinit K C "at") :=
  w_xinit (bn := "WalkError") F sc_init1 hB gW (by decide) rfl (fun X h => by unfold Gl Env.kindOf; rw [h]; rfl) (fun X h => by rw [h]; exact ⟨.inl rfl, .inl rfl⟩) (by decide) (by decide) (fun env h => ⟨_, rfl⟩)
abbrev st_init2 : Stmt := (clsB (top 4)).getD 0 (.Pass ⟨0, 0, 0, 0⟩)
theorem sc_init2 : FnScope [("self" : Str), "row"] ["self", "row"] (defScope st_init2) := ⟨rfl, rfl, rfl, by decide +kernel, rfl, by decide +kernel, by decide +kernel⟩
theorem w_init2 {P : Program} {w : World} {K : PySem.W.Frag} {mg : Str → Option Value} {base : Heap} {qual : Str} {f : Addr} {fd : FuncData} {C CW : Addr} (F : Fun K "__init__" qual st_init2 f fd) (hB : BaseK K CW) (gW : mg "WalkError" = some (.ref CW)) : FnOk P w K mg base (L2.CX P w) 1 f fd ["self", "row"] (sp_xinit K C "row") :=
  w_xinit (bn := "WalkError") F sc_init2 hB gW (by decide) rfl (fun X h => by unfold Gl Env.kindOf; rw [h]; rfl) (fun X h => by rw [h]; exact ⟨.inl rfl, .inl rfl⟩) (by decide) (by decide) (fun env h => ⟨_, rfl⟩)
abbrev st_init3 : Stmt := (clsB (top 6)).getD 0 (.Pass ⟨0, 0, 0, 0⟩)
theorem sc_init3 : FnScope [("self" : Str), "most"] ["self", "most"] (defScope st_init3) := ⟨rfl, rfl, rfl, by decide +kernel, rfl, by decide +kernel, by decide +kernel⟩
theorem w_init3 {P : Program} {w : World} {K : PySem.W.Frag} {mg : Str → Option Value} {base : Heap} {qual : Str} {f : Addr} {fd : FuncData} {C CW : Addr} (F : Fun K "__init__" qual st_init3 f fd) (hB : BaseK K CW) (gW : mg "WalkError" = some (.ref CW)) : FnOk P w K mg base (L2.CX P w) 1 f fd ["self", "most"] (sp_xinit K C "most") :=
  w_xinit (bn := "WalkError") F sc_init3 hB gW (by decide) rfl (fun X h => by unfold Gl Env.kindOf; rw [h]; rfl) (fun X h => by rw [h]; exact ⟨.inl rfl, .inl rfl⟩) (by decide) (by decide) (fun env h => ⟨_, rfl⟩)
structure Ex6 (P : Program) (w : World) (K : PySem.W.Frag) (mg : Str → Option Value) (base : Heap) (C0 C1 C2 C3 C4 C5 CW : Addr) : Prop where
  gW : mg "WalkError" = some (.ref CW)
  g0 : mg "NoBoard" = some (.ref C0)
  cs0 : Tb0.cs 0 = (Value.ref C0, some ("at" : Str))
  ek0 : ExcK K C0
  em0 : PySem.W.exmOne K (.ref C0) (.ref CW) = some true
  XF0 : XcF P w K mg base "NoBoard" C0 "at"
  xf0 : XfC K C0
  no0 : PySem.W.findIn K (.ref C0) "at" = some none
  kt0 : ∀ k, k ≤ 5 → ∃ (C : Addr) (f : Option Str), Tb0.cs k = (Value.ref C, f) ∧ ExcK K C ∧ PySem.W.kitOne K (.ref C) (.ref C0) = some (decide (k = 0))
  g1 : mg "NoMap" = some (.ref C1)
  cs1 : Tb0.cs 1 = (Value.ref C1, some ("at" : Str))
  ek1 : ExcK K C1
  em1 : PySem.W.exmOne K (.ref C1) (.ref CW) = some true
  XF1 : XcF P w K mg base "NoMap" C1 "at"
  xf1 : XfC K C1
  no1 : PySem.W.findIn K (.ref C1) "at" = some none
  kt1 : ∀ k, k ≤ 5 → ∃ (C : Addr) (f : Option Str), Tb0.cs k = (Value.ref C, f) ∧ ExcK K C ∧ PySem.W.kitOne K (.ref C) (.ref C1) = some (decide (k = 1))
  g2 : mg "BadText" = some (.ref C2)
  cs2 : Tb0.cs 2 = (Value.ref C2, some ("row" : Str))
  ek2 : ExcK K C2
  em2 : PySem.W.exmOne K (.ref C2) (.ref CW) = some true
  XF2 : XcF P w K mg base "BadText" C2 "row"
  xf2 : XfC K C2
  no2 : PySem.W.findIn K (.ref C2) "row" = some none
  kt2 : ∀ k, k ≤ 5 → ∃ (C : Addr) (f : Option Str), Tb0.cs k = (Value.ref C, f) ∧ ExcK K C ∧ PySem.W.kitOne K (.ref C) (.ref C2) = some (decide (k = 2))
  g3 : mg "TooMany" = some (.ref C3)
  cs3 : Tb0.cs 3 = (Value.ref C3, some ("most" : Str))
  ek3 : ExcK K C3
  em3 : PySem.W.exmOne K (.ref C3) (.ref CW) = some true
  XF3 : XcF P w K mg base "TooMany" C3 "most"
  xf3 : XfC K C3
  no3 : PySem.W.findIn K (.ref C3) "most" = some none
  kt3 : ∀ k, k ≤ 5 → ∃ (C : Addr) (f : Option Str), Tb0.cs k = (Value.ref C, f) ∧ ExcK K C ∧ PySem.W.kitOne K (.ref C) (.ref C3) = some (decide (k = 3))
  g4 : mg "IsFixed" = some (.ref C4)
  cs4 : Tb0.cs 4 = (Value.ref C4, none)
  ek4 : ExcK K C4
  em4 : PySem.W.exmOne K (.ref C4) (.ref CW) = some true
  q4 : PySem.W.excIn K C4 [.type "ValueError", .type "Exception", .type "BaseException", .type "object"] "ValueError.__new__" = true
  k4 : PySem.W.keepIn K (.ref C4) = true
  e4 : PySem.W.subIn K (.ref C4) (.type "BaseException") = some true
  t4 : PySem.W.typeIn K (.ref C4) = some (.type "type")
  kt4 : ∀ k, k ≤ 5 → ∃ (C : Addr) (f : Option Str), Tb0.cs k = (Value.ref C, f) ∧ ExcK K C ∧ PySem.W.kitOne K (.ref C) (.ref C4) = some (decide (k = 4))
  g5 : mg "NoRow" = some (.ref C5)
  cs5 : Tb0.cs 5 = (Value.ref C5, none)
  ek5 : ExcK K C5
  em5 : PySem.W.exmOne K (.ref C5) (.ref CW) = some true
  q5 : PySem.W.excIn K C5 [.type "ValueError", .type "Exception", .type "BaseException", .type "object"] "ValueError.__new__" = true
  k5 : PySem.W.keepIn K (.ref C5) = true
  e5 : PySem.W.subIn K (.ref C5) (.type "BaseException") = some true
  t5 : PySem.W.typeIn K (.ref C5) = some (.type "type")
  kt5 : ∀ k, k ≤ 5 → ∃ (C : Addr) (f : Option Str), Tb0.cs k = (Value.ref C, f) ∧ ExcK K C ∧ PySem.W.kitOne K (.ref C) (.ref C5) = some (decide (k = 5))
  ktW : ∀ k, k ≤ 5 → ∃ (C : Addr) (f : Option Str), Tb0.cs k = (Value.ref C, f) ∧ ExcK K C ∧ PySem.W.kitOne K (.ref C) (.ref CW) = some true
  ktV : ∀ k, k ≤ 5 → ∃ (C : Addr) (f : Option Str), Tb0.cs k = (Value.ref C, f) ∧ ExcK K C ∧ PySem.W.kitOne K (.ref C) (.type "ValueError") = some true
abbrev st__law_box : Stmt := top 9
def pr__law_box (K : PySem.W.Frag) : Sp := fun vs H Q E => ∃ (x_law_script : (List Int)) (x_law_k : Int), ok__law_box x_law_script x_law_k ∧ Pm0 K [.fr .scr x_law_script, .fr .int x_law_k] (.ow (.lst .int (m__law_box x_law_script x_law_k))) vs H Q E
theorem sc__law_box : FnScope ["_law_script", "_law_k", "_law_cell", "_law_seed"] ["_law_script", "_law_k"] (defScope st__law_box) := ⟨rfl, rfl, rfl, by decide +kernel, rfl, by decide +kernel, by decide +kernel⟩
abbrev st__law_take : Stmt := top 10
def pr__law_take (K : PySem.W.Frag) : Sp := fun vs H Q E => ∃ (x_law_box_here : (List Int)) (x_law_many : Int), ok__law_take x_law_box_here x_law_many ∧ Pm1 K (.lst .int x_law_box_here) (.lst .int (m__law_take x_law_box_here x_law_many).2) [.fr .int x_law_many] (.fr .int (m__law_take x_law_box_here x_law_many).1) vs H Q E
theorem sc__law_take : FnScope ["_law_box_here", "_law_many", "_law_digit", "_law_one"] ["_law_box_here", "_law_many"] (defScope st__law_take) := ⟨rfl, rfl, rfl, by decide +kernel, rfl, by decide +kernel, by decide +kernel⟩
abbrev st__law_caught : Stmt := top 12
def pr__law_caught (K : PySem.W.Frag) : Sp := fun vs H Q E => ∃ (x_law_k : Int) (x_law_number : Int), ok__law_caught x_law_k x_law_number ∧ Pm0 K [.fr .int x_law_k, .fr .int x_law_number] (.fr .ex (m__law_caught x_law_k x_law_number)) vs H Q E
theorem sc__law_caught : FnScope ["_law_k", "_law_number", "_law_found", "_law_e"] ["_law_k", "_law_number"] (defScope st__law_caught) := ⟨rfl, rfl, rfl, by decide +kernel, rfl, by decide +kernel, by decide +kernel⟩
def cVal (k n : Int) : Int := exVal k n
abbrev st__law_kinds : Stmt := top 11
def pr__law_kinds (K : PySem.W.Frag) : Sp := fun vs H Q E => ∃ (x_law_e : (Nat × Int)), ok__law_kinds x_law_e ∧ Pm0 K [.fr .ex x_law_e] (.fr (.lst .bool) (m__law_kinds x_law_e)) vs H Q E
theorem sc__law_kinds : FnScope ["_law_e"] ["_law_e"] (defScope st__law_kinds) := ⟨rfl, rfl, rfl, by decide +kernel, rfl, by decide +kernel, by decide +kernel⟩
abbrev st_law : Stmt := top 13
def pr_law (K : PySem.W.Frag) : Sp := fun vs H Q E => ∃ (x_law_script : (List Int)), ok_law x_law_script ∧ Pm0 K [.fr .scr x_law_script] (.fr .bool (m_law x_law_script)) vs H Q E
theorem sc_law : FnScope ["_law_script", "_law_box_here", "_law_numbers", "_law_made_two", "_law_some", "_law_number", "_law_k", "_law_e", "_law_j"] ["_law_script"] (defScope st_law) := ⟨rfl, rfl, rfl, by decide +kernel, rfl, by decide +kernel, by decide +kernel⟩
end Wk
set_option Elab.async false
set_option linter.all false
set_option maxRecDepth 100000
set_option maxHeartbeats 20000000
namespace Wk
open PySem PySem.Spec PyProof.Rows L2 TL Dn
variable [Tb0]
theorem w_law {P : Program} {w : World} {K : PySem.W.Frag} {mg : Str → Option Value} {base : Heap} (B : Bt mg) {C0 C1 C2 C3 C4 C5 CW : Addr} (X6 : Ex6 P w K mg base C0 C1 C2 C3 C4 C5 CW) (C__law_box : Cl P w K mg base 1 "_law_box" ["_law_script", "_law_k"] (pr__law_box K)) (C__law_take : Cl P w K mg base 1 "_law_take" ["_law_box_here", "_law_many"] (pr__law_take K)) (C__law_caught : Cl P w K mg base 3 "_law_caught" ["_law_k", "_law_number"] (pr__law_caught K)) (C__law_kinds : Cl P w K mg base 1 "_law_kinds" ["_law_e"] (pr__law_kinds K)) {f : Addr} {fd : FuncData} (F : Fun K "law" "law" st_law f fd) : FnG P w K mg base 4 f fd ["_law_script"] (pr_law K) :=
  fun_okG F sc_law (fun vs H Q E h => by obtain ⟨x_law_script, _, h⟩ := h; exact pm0_len h) (fun cdv A outer s H vs Q E hr h => by
    obtain ⟨x_law_script, hk, h⟩ := h
    refine ⟨_, pss_wp, ?_⟩
    refine body_F (t := .bool) (Γ0 := [.fr .scr x_law_script, .un, .un, .un, .un, .un, .un, .un, .un]) (d := default) (dss_cons (ds_setO 1 (clo_call C__law_box (hr.mono (by decide)) (fun _ _ _ h => ⟨_, _, hk.1, h⟩) (da_cons (de_var 0 rfl) (da_cons de_int da_nil (hs := by rfl)) (hs := by rfl)) (hf := by rfl) (hg := by rfl) (hdb := by decide) (he := by rfl) (hpl := by rfl)) sc_law.nd) (cont_let1 (ρ := Bool) (fun (v76 : (List Int)) => [.fr .scr x_law_script, .ow false (.lst .int v76), .un, .un, .un, .un, .un, .un, .un]) ((m__law_box x_law_script (0 : Int))) (fun (v76 : (List Int)) => (ok_law_1 (v76))) hk.2 rfl (fun v76 hs75 => (dss_cons (ds_frz 2 (ds_lc 2 (lcq_mapS (t := .int) [("_law_k", 6)] (fun (s15 : (List Int)) => [.fr .scr (x_law_script), .ow false (.lst .int s15), .un, .un, .un, .un, .un, .un, .un]) (v76) (P := (fun (s10 : (List Int)) (y5 : Int) => ((ok__law_take s10 (9 : Int)) ∧ (let t11 := (m__law_take s10 (9 : Int)); ((ok__law_take t11.2 ((10 : Int) ^ Int.toNat (12 : Int))) ∧ (let t12 := (m__law_take t11.2 ((10 : Int) ^ Int.toNat (12 : Int))); ((ok__law_take t12.2 (2 : Int)) ∧ (let t13 := (m__law_take t12.2 (2 : Int)); ((IxOk (([t11.1, t12.1] : List Int)).length t13.1) ∧ True))))))))) (f := (fun (s10 : (List Int)) (y5 : Int) => (let t11 := (m__law_take s10 (9 : Int)); (let t12 := (m__law_take t11.2 ((10 : Int) ^ Int.toNat (12 : Int))); (let t13 := (m__law_take t12.2 (2 : Int)); ((Dn.get (default : Int) ([t11.1, t12.1] : List Int) t13.1), t13.2)))))) (di_range1 B.z_range hs75.1 de_int (eg_name 6 .int) (hgl := by rfl) (hs := by rfl)) rfl (fun _ _ _ _ _ => (pg_name (i := 6) sc_law.nd rfl (by first | exact Or.inl rfl | exact Or.inr rfl))) hs75.2.1 hs75.2.2.1 ?b1 (show BlkOk ["_law_script", "_law_box_here", "_law_numbers", "_law_made_two", "_law_some", "_law_number", "_law_k", "_law_e", "_law_j"] (defScope st_law) _ _ from ⟨rfl, by decide +kernel, by decide +kernel, by decide +kernel, by decide +kernel⟩) (hw := by intro _; rfl) (htg := by decide)) sc_law.nd (hy := by rfl) (hyl := by rfl) (hsw := by exact sw_true rfl rfl rfl (by decide +kernel)) (hc := by rfl) (hs := by intro _; rfl)) (hi := rfl)) (cont_let2 (ρ := Bool) (fun (v73 : (List Int)) (v74 : (List Int)) => [.fr .scr (x_law_script), .ow false (.lst .int v73), .fr (.lst .int) v74, .un, .un, .un, .un, .un, .un]) ((mapS (fun (s10 : (List Int)) (y5 : Int) => (let t11 := (m__law_take s10 (9 : Int)); (let t12 := (m__law_take t11.2 ((10 : Int) ^ Int.toNat (12 : Int))); (let t13 := (m__law_take t12.2 (2 : Int)); ((Dn.get (default : Int) ([t11.1, t12.1] : List Int) t13.1), t13.2))))) (v76) (rng 0 (2 : Int))).2) ((mapS (fun (s10 : (List Int)) (y5 : Int) => (let t11 := (m__law_take s10 (9 : Int)); (let t12 := (m__law_take t11.2 ((10 : Int) ^ Int.toNat (12 : Int))); (let t13 := (m__law_take t12.2 (2 : Int)); ((Dn.get (default : Int) ([t11.1, t12.1] : List Int) t13.1), t13.2))))) (v76) (rng 0 (2 : Int))).1) (fun (v73 : (List Int)) (v74 : (List Int)) => (ok_law_16 (v74))) hs75.2.2.2 rfl (fun v73 v74 hs72 => (dss_cons (ds_frz 3 (ds_lc 3 (lcq_map (t := (.lst .ex)) [("_law_number", 5)] (P := (fun (y21 : Int) => ((RngOk (6 : Int)) ∧ ((Sz ((rng 0 (6 : Int))).length) ∧ ((∀ y23 ∈ (rng 0 (6 : Int)), ((ok__law_caught y23 y21) ∧ True)) ∧ True))))) (h := fun (y21 : Int) => (List.map (fun (y23 : Int) => (m__law_caught y23 y21)) (rng 0 (6 : Int)))) (di_list (t := .int) (de_var 2 rfl) (eg_name 5 .int)) (fun _ _ _ _ _ => (pg_name (i := 5) sc_law.nd rfl (by first | exact Or.inl rfl | exact Or.inr rfl))) hs72.1 hs72.2.1 ?b2 (show BlkOk ["_law_script", "_law_box_here", "_law_numbers", "_law_made_two", "_law_some", "_law_number", "_law_k", "_law_e", "_law_j"] (defScope st_law) _ _ from ⟨rfl, by decide +kernel, by decide +kernel, by decide +kernel, by decide +kernel⟩) (hw := by rfl) (htg := by decide)) sc_law.nd (hy := by rfl) (hyl := by rfl) (hsw := by exact sw_true rfl rfl rfl (by decide +kernel)) (hc := by rfl) (hs := by intro _; rfl)) (hi := rfl)) (cont_let1 (ρ := Bool) (fun (v71 : (List (List (Nat × Int)))) => [.fr .scr ((x_law_script)), .ow false (.lst .int (v73)), .fr (.lst .int) (v74), .fr (.lst (.lst .ex)) v71, .un, .un, .un, .un, .un]) ((List.map (fun (y21 : Int) => (List.map (fun (y23 : Int) => (m__law_caught y23 y21)) (rng 0 (6 : Int)))) (v74))) (fun (v71 : (List (List (Nat × Int)))) => (ok_law_25 ((v74)) (v71))) hs72.2.2 rfl (fun v71 hs70 => (dss_cons (ds_forL (fun (s61 : Unit) => [.fr .scr (((x_law_script))), .ow false (.lst .int ((v73))), .fr (.lst .int) ((v74)), .fr (.lst (.lst .ex)) (v71), .un, .un, .un, .un, .un]) (s0 := ()) (f := m_law_L31) (P := ok_law_L31) (di_zipL (t := (.lst .ex)) (u := .int) B.z_zip (de_var 3 rfl) (de_var 2 rfl) (eg_2 4 5 (.lst .ex) .int) (hgl := by rfl) (hs := by rfl) (hs2 := by rfl) (hpl := by rfl)) ent_refl hs70.1 ?b3 (pg_tup rfl (pgs_cons (pg_name (i := 4) sc_law.nd rfl (by first | exact Or.inl rfl | exact Or.inr rfl)) (pgs_cons (pg_name (i := 5) sc_law.nd rfl (by first | exact Or.inl rfl | exact Or.inr rfl)) pgs_nil))) (by first | exact PassesOwn.never | exact pa) (hc := by rfl) (hs := by intro _; rfl)) (cont_lpP (fun (s62 : Unit) => ok_law_63) hs70.2 (fun s62 hs69 => cont_nx (dss_one (ds_ret de_bool)))))) rfl))) rfl))) rfl)) (rets_lp (fun s62 => rets_rt)) h (hΓ := by rfl) (hl := by exact Nat.le_of_ble_eq_true rfl)
    case b1 =>
      exact (fun s10 y5 hP6 => ⟨_, ((m__law_take ((m__law_take ((m__law_take s10 (9 : Int))).2 ((10 : Int) ^ Int.toNat (12 : Int)))).2 (2 : Int))).2, _, (fun _ _ _ _ _ => (de_ixL (t := .int) (default : Int) hP6.2.2.2.1 (de_frz (do_lst (t := .int) (dls_cons (cl_callB 1 C__law_take (hr.mono (by decide)) (fun _ _ _ h => ⟨_, _, hP6.1, h⟩) (da_box 1 (da_cons de_int da_nil (hs := by rfl))) (hi := rfl) (hf := by rfl) (hg := by rfl) (hdb := by decide) (he := by rfl) (hpl := by rfl)) (dls_cons (cl_callB 1 C__law_take (hr.mono (by decide)) (fun _ _ _ h => ⟨_, _, hP6.2.1, h⟩) (da_box 1 (da_cons (de_pow (i := (10 : Int)) (j := (12 : Int)) ⟨by decide, by decide, by decide⟩ de_int de_int) da_nil (hs := by rfl))) (hi := rfl) (hf := by rfl) (hg := by rfl) (hdb := by decide) (he := by rfl) (hpl := by rfl)) dls_nil (hs := by rfl)) (hs := by rfl)) (hz := by exact sz_of rfl))) (cl_callB 1 C__law_take (hr.mono (by decide)) (fun _ _ _ h => ⟨_, _, hP6.2.2.1, h⟩) (da_box 1 (da_cons de_int da_nil (hs := by rfl))) (hi := rfl) (hf := by rfl) (hg := by rfl) (hdb := by decide) (he := by rfl) (hpl := by rfl)) (hs := by exact fun _ _ => rfl))), (.eq (.eq (.eq (.eq (.eq (.eq (.un (.eq (.eq (.nil)))))))))), rfl⟩)
    case b2 =>
      refine (fun y21 hP22 => ⟨_, _, (fun _ _ _ _ _ => (de_frz (do_lc (lcq_map (t := .ex) [("_law_k", 6)] (P := (fun (y23 : Int) => ((ok__law_caught y23 y21) ∧ True))) (h := fun (y23 : Int) => (m__law_caught y23 y21)) (di_range1 B.z_range hP22.1 de_int (eg_name 6 .int) (hgl := by rfl) (hs := by rfl)) (fun _ _ _ _ _ => (pg_name (i := 6) sc_law.nd rfl (by first | exact Or.inl rfl | exact Or.inr rfl))) hP22.2.1 hP22.2.2.1 ?b4 (by show BlkOk ["_law_script", "_law_box_here", "_law_numbers", "_law_made_two", "_law_some", "_law_number", "_law_k", "_law_e", "_law_j"] _ _ _; exact ⟨rfl, by decide +kernel, by decide +kernel, by (repeat' (first | exact allMem_nil | refine allMem_cons ?_ ?_)) <;> (intro hf; first | (cases hf; done) | exact Or.inl rfl | exact Or.inr rfl), by decide +kernel⟩) (hw := by rfl) (htg := by decide)) sc_law.nd (hc := by rfl) (hs := by intro _; rfl)))), (.eq (.eq (.eq (.eq (.eq (.un (.eq (.eq (.eq (.nil)))))))))), rfl⟩)
      case b4 =>
        exact (fun y23 hP24 => ⟨_, _, (fun _ _ _ _ _ => (cl_call C__law_caught (hr.mono (by decide)) (fun _ _ _ h => ⟨_, _, hP24.1, h⟩) (da_cons (de_var 6 rfl) (da_cons (de_var 5 rfl) da_nil (hs := by rfl)) (hs := by rfl)) (hf := by rfl) (hg := by rfl) (hdb := by decide) (he := by rfl) (hpl := by rfl))), (.eq (.eq (.eq (.eq (.eq (.eq (.un (.eq (.eq (.nil)))))))))), rfl⟩)
    case b3 =>
      refine (fun s32 y33 H34 => ⟨_, (dss_cons (ds_if (dt_cmp (dc_ne (t := (.p4 .int .int .int .int)) hr (lay_no _ rfl _) (lay_no _ rfl _) (de_t4 (de_exf H34.2.1 X6.cs0 X6.xf0 X6.no0 (de_ixL (t := .ex) (default : (Nat × Int)) H34.1 (de_var 4 rfl) de_int (hs := by exact fun _ _ => rfl))) (de_exf H34.2.2.2.1 X6.cs1 X6.xf1 X6.no1 (de_ixL (t := .ex) (default : (Nat × Int)) H34.2.2.1 (de_var 4 rfl) de_int (hs := by exact fun _ _ => rfl))) (de_exf H34.2.2.2.2.2.1 X6.cs2 X6.xf2 X6.no2 (de_ixL (t := .ex) (default : (Nat × Int)) H34.2.2.2.2.1 (de_var 4 rfl) de_int (hs := by exact fun _ _ => rfl))) (de_exf H34.2.2.2.2.2.2.2.1 X6.cs3 X6.xf3 X6.no3 (de_ixL (t := .ex) (default : (Nat × Int)) H34.2.2.2.2.2.2.1 (de_var 4 rfl) de_int (hs := by exact fun _ _ => rfl))) (hs := by rfl) (hs2 := by rfl) (hs3 := by rfl) (hs4 := by rfl)) (de_t4 (de_var 5 rfl) (de_sub (de_var 5 rfl) de_int) (de_var 5 rfl) (de_add (de_var 5 rfl) de_int) (hs := by rfl) (hs2 := by rfl) (hs3 := by rfl) (hs4 := by rfl)) (he := by rfl) (hd := by decide)) (h1 := by first | exact nobehind _ (by decide) (by decide) | rfl)) (fun hb39 => (dss_one (ds_ret de_bool))) (fun hb40 => dss_nil)) (cont_br (fun hb39 => cont_rt) (fun hb40 => (cont_nx (dss_one (ds_forL (fun (s58 : Unit) => [.fr .scr ((((x_law_script)))), .ow false (.lst .int (((v73)))), .fr (.lst .int) (((v74))), .fr (.lst (.lst .ex)) ((v71)), .fr (.lst .ex) (y33.1), .fr .int (y33.2), .un, .un, .un]) (s0 := ()) (f := m_law_L41) (P := ok_law_L41) (di_enumL B.z_enumerate (de_var 4 rfl) (eg_2 6 7 .int .ex) (hgl := by rfl) (hs := by rfl)) ent_refl (H34.2.2.2.2.2.2.2.2.1 hb40).1 ?b5 (pg_tup rfl (pgs_cons (pg_name (i := 6) sc_law.nd rfl (by first | exact Or.inl rfl | exact Or.inr rfl)) (pgs_cons (pg_name (i := 7) sc_law.nd rfl (by first | exact Or.inl rfl | exact Or.inr rfl)) pgs_nil))) (by first | exact PassesOwn.never | exact pa) (hc := by rfl) (hs := by intro _; rfl))))))), (tn_br (fun hb39 => tn_rt) (fun hb40 => (tn_lp (fun s59 => (tn_nx (ent_wk (.eq (.eq (.eq (.eq (.un (.un (.eq (.eq (.eq (.nil))))))))))))))))⟩)
      case b5 =>
        refine (fun s42 y43 H44 => ⟨_, (dss_cons (ds_if (dt_pw (dw_or (dt_cmp (dc_ne (t := (.lst .bool)) hr (lay_no _ rfl _) (lay_no _ rfl _) (cl_call C__law_kinds (hr.mono (by decide)) (fun _ _ _ h => ⟨_, H44.1, h⟩) (da_cons (de_var 7 rfl) da_nil (hs := by rfl)) (hf := by rfl) (hg := by rfl) (hdb := by decide) (he := by rfl) (hpl := by rfl)) (de_frz (do_lc (lcq_map (t := .bool) [("_law_j", 8)] (P := (fun (y51 : Int) => True)) (h := fun (y51 : Int) => (decide (y51 = (y43.1)))) (di_range1 B.z_range H44.2.1 de_int (eg_name 8 .int) (hgl := by rfl) (hs := by rfl)) (fun _ _ _ _ _ => (pg_name (i := 8) sc_law.nd rfl (by first | exact Or.inl rfl | exact Or.inr rfl))) H44.2.2.1 (fun _ _ => trivial) ?b6 (show BlkOk ["_law_script", "_law_box_here", "_law_numbers", "_law_made_two", "_law_some", "_law_number", "_law_k", "_law_e", "_law_j"] (defScope st_law) _ _ from ⟨rfl, by decide +kernel, by decide +kernel, by decide +kernel, by decide +kernel⟩) (hw := by rfl) (htg := by decide)) sc_law.nd (hc := by rfl) (hs := by intro _; rfl))) (he := by rfl) (hd := by decide)) (h1 := by first | exact nobehind _ (by decide) (by decide) | rfl)) (fun hb53 => (dw_or1 (dt_not (dt_val (de_isiEx (T := fun _ => true) B.z_isinstance (pe_glob (v := .ref CW) rfl X6.gW rfl) isv_ref (X6.ktW _ (H44.2.2.2.1 hb53).1) (de_var 7 rfl)) (he := by intro _; rfl))))) (fun _ => rfl))) (fun hb54 => (dss_one (ds_ret de_bool))) (fun hb55 => dss_nil)) (cont_br (fun hb54 => cont_rt) (fun hb55 => (cont_nx (dss_one (ds_if (dt_not (dt_val (de_isiEx (T := fun _ => true) B.z_isinstance (pe_bltn (v := .ty "ValueError") rfl B.z_ValueError rfl rfl) isv_ty (X6.ktV _ (H44.2.2.2.2.1 hb55).1) (de_var 7 rfl)) (he := by intro _; rfl))) (fun hb56 => (dss_one (ds_ret de_bool))) (fun hb57 => dss_nil))))))), (tn_br (fun hb54 => tn_rt) (fun hb55 => (tn_br (fun hb56 => tn_rt) (fun hb57 => (tn_nx (ent_wk (.eq (.eq (.eq (.eq (.eq (.eq (.un (.un (.eq (.nil))))))))))))))))⟩)
        case b6 =>
          exact (fun y51 hP52 => ⟨_, _, (fun _ _ _ _ _ => (de_cmp (dc_eqS (t := .int) (de_var 8 rfl) (de_var 6 rfl) (hs := by rfl)) (h1 := by first | exact nobehind _ (by decide) (by decide) | rfl))), (.eq (.eq (.eq (.eq (.eq (.eq (.eq (.eq (.un (.nil)))))))))), rfl⟩))
end Wk
set_option Elab.async false
set_option linter.all false
set_option maxRecDepth 100000
set_option maxHeartbeats 20000000
namespace Wk
open PySem PySem.Spec PyProof.Rows L2 TL Dn
variable [Tb0]
theorem w__law_caught {P : Program} {w : World} {K : PySem.W.Frag} {mg : Str → Option Value} {base : Heap} (B : Bt mg) {C0 C1 C2 C3 C4 C5 CW : Addr} (X6 : Ex6 P w K mg base C0 C1 C2 C3 C4 C5 CW)  {f : Addr} {fd : FuncData} (F : Fun K "_law_caught" "_law_caught" st__law_caught f fd) : FnG P w K mg base 3 f fd ["_law_k", "_law_number"] (pr__law_caught K) :=
  fun_okG F sc__law_caught (fun vs H Q E h => by obtain ⟨x_law_k, x_law_number, _, h⟩ := h; exact pm0_len h) (fun cdv A outer s H vs Q E hr h => by
    obtain ⟨x_law_k, x_law_number, hk, h⟩ := h
    refine ⟨_, pss_wp, ?_⟩
    have hk0 : (0 : Int) ≤ x_law_k ∧ x_law_k ≤ 5 := hk.1
    rcases (show x_law_k = 0 ∨ x_law_k = 1 ∨ x_law_k = 2 ∨ x_law_k = 3 ∨ x_law_k = 4 ∨ x_law_k = 5 by omega) with rfl | rfl | rfl | rfl | rfl | rfl
    · exact body_F (t := .ex) (Γ0 := [.fr .int (0 : Int), .fr .int x_law_number, .un, .un]) (d := default) (dss_cons (ds_set 2 (de_none .int) sc__law_caught.nd) (cont_nx (dss_cons (show DS _ _ _ _ (.nx [.fr .int (0 : Int), .fr .int x_law_number, .fd (.xc (.ref C0) (some "at") x_law_number), .un]) from ds_tryAs (c := .ref C0) (f := (some "at")) (o := .rt (.inl x_law_number)) (oh := fun e => .nx [.fr .int (0 : Int), .fr .int x_law_number, .fd (.xc (.ref C0) (some "at") e), .fd (.xc (.ref C0) (some "at") e)]) 3 [.fr .int (0 : Int), .fr .int x_law_number, .fr (.opt .int) none, .un] ⟨rfl, by decide, .inl X6.gW⟩ X6.em0 sc__law_caught.nd (fun W pn xe tk pa => (dss_cons (ds_ifYes (dt_cmp (dc_eqS (t := .int) (de_var 0 rfl) de_int (hs := by rfl)) (h1 := by first | exact nobehind _ (by decide) (by decide) | rfl)) (by decide) (dss_one (ds_raise1 X6.XF0 tk hr (de_var 1 rfl) rfl (hg := by rfl) (hdb := by decide) (hc := by rfl) (hs := by rfl) (hpl := by rfl)))) cont_rt)) (fun a pn ev1 => dss_one (ds_setFd 2 3 sc__law_caught.nd)) (hi := by rfl) (hln := by rfl) (hs := by rfl) (hf := by rfl) (hex := by rfl)) (cont_nx (dss_one (ds_ret (de_exv 2 0 X6.cs0))))))) rets_rt h (hΓ := by rfl) (hl := by exact Nat.le_of_ble_eq_true rfl)
    · exact body_F (t := .ex) (Γ0 := [.fr .int (1 : Int), .fr .int x_law_number, .un, .un]) (d := default) (dss_cons (ds_set 2 (de_none .int) sc__law_caught.nd) (cont_nx (dss_cons (show DS _ _ _ _ (.nx [.fr .int (1 : Int), .fr .int x_law_number, .fd (.xc (.ref C1) (some "at") (x_law_number - 1)), .un]) from ds_tryAs (c := .ref C1) (f := (some "at")) (o := .rt (.inl (x_law_number - 1))) (oh := fun e => .nx [.fr .int (1 : Int), .fr .int x_law_number, .fd (.xc (.ref C1) (some "at") e), .fd (.xc (.ref C1) (some "at") e)]) 3 [.fr .int (1 : Int), .fr .int x_law_number, .fr (.opt .int) none, .un] ⟨rfl, by decide, .inl X6.gW⟩ X6.em1 sc__law_caught.nd (fun W pn xe tk pa => (dss_cons (ds_ifNo (dt_cmp (dc_eqS (t := .int) (de_var 0 rfl) de_int (hs := by rfl)) (h1 := by first | exact nobehind _ (by decide) (by decide) | rfl)) (by decide)) (cont_nx (dss_cons (ds_ifYes (dt_cmp (dc_eqS (t := .int) (de_var 0 rfl) de_int (hs := by rfl)) (h1 := by first | exact nobehind _ (by decide) (by decide) | rfl)) (by decide) (dss_one (ds_raise1 X6.XF1 tk hr (de_sub (de_var 1 rfl) de_int) rfl (hg := by rfl) (hdb := by decide) (hc := by rfl) (hs := by rfl) (hpl := by rfl)))) cont_rt)))) (fun a pn ev1 => dss_one (ds_setFd 2 3 sc__law_caught.nd)) (hi := by rfl) (hln := by rfl) (hs := by rfl) (hf := by rfl) (hex := by rfl)) (cont_nx (dss_one (ds_ret (de_exv 2 1 X6.cs1))))))) rets_rt h (hΓ := by rfl) (hl := by exact Nat.le_of_ble_eq_true rfl)
    · exact body_F (t := .ex) (Γ0 := [.fr .int (2 : Int), .fr .int x_law_number, .un, .un]) (d := default) (dss_cons (ds_set 2 (de_none .int) sc__law_caught.nd) (cont_nx (dss_cons (show DS _ _ _ _ (.nx [.fr .int (2 : Int), .fr .int x_law_number, .fd (.xc (.ref C2) (some "row") x_law_number), .un]) from ds_tryAs (c := .ref C2) (f := (some "row")) (o := .rt (.inl x_law_number)) (oh := fun e => .nx [.fr .int (2 : Int), .fr .int x_law_number, .fd (.xc (.ref C2) (some "row") e), .fd (.xc (.ref C2) (some "row") e)]) 3 [.fr .int (2 : Int), .fr .int x_law_number, .fr (.opt .int) none, .un] ⟨rfl, by decide, .inl X6.gW⟩ X6.em2 sc__law_caught.nd (fun W pn xe tk pa => (dss_cons (ds_ifNo (dt_cmp (dc_eqS (t := .int) (de_var 0 rfl) de_int (hs := by rfl)) (h1 := by first | exact nobehind _ (by decide) (by decide) | rfl)) (by decide)) (cont_nx (dss_cons (ds_ifNo (dt_cmp (dc_eqS (t := .int) (de_var 0 rfl) de_int (hs := by rfl)) (h1 := by first | exact nobehind _ (by decide) (by decide) | rfl)) (by decide)) (cont_nx (dss_cons (ds_ifYes (dt_cmp (dc_eqS (t := .int) (de_var 0 rfl) de_int (hs := by rfl)) (h1 := by first | exact nobehind _ (by decide) (by decide) | rfl)) (by decide) (dss_one (ds_raise1 X6.XF2 tk hr (de_var 1 rfl) rfl (hg := by rfl) (hdb := by decide) (hc := by rfl) (hs := by rfl) (hpl := by rfl)))) cont_rt)))))) (fun a pn ev1 => dss_one (ds_setFd 2 3 sc__law_caught.nd)) (hi := by rfl) (hln := by rfl) (hs := by rfl) (hf := by rfl) (hex := by rfl)) (cont_nx (dss_one (ds_ret (de_exv 2 2 X6.cs2))))))) rets_rt h (hΓ := by rfl) (hl := by exact Nat.le_of_ble_eq_true rfl)
    · exact body_F (t := .ex) (Γ0 := [.fr .int (3 : Int), .fr .int x_law_number, .un, .un]) (d := default) (dss_cons (ds_set 2 (de_none .int) sc__law_caught.nd) (cont_nx (dss_cons (show DS _ _ _ _ (.nx [.fr .int (3 : Int), .fr .int x_law_number, .fd (.xc (.ref C3) (some "most") (x_law_number + 1)), .un]) from ds_tryAs (c := .ref C3) (f := (some "most")) (o := .rt (.inl (x_law_number + 1))) (oh := fun e => .nx [.fr .int (3 : Int), .fr .int x_law_number, .fd (.xc (.ref C3) (some "most") e), .fd (.xc (.ref C3) (some "most") e)]) 3 [.fr .int (3 : Int), .fr .int x_law_number, .fr (.opt .int) none, .un] ⟨rfl, by decide, .inl X6.gW⟩ X6.em3 sc__law_caught.nd (fun W pn xe tk pa => (dss_cons (ds_ifNo (dt_cmp (dc_eqS (t := .int) (de_var 0 rfl) de_int (hs := by rfl)) (h1 := by first | exact nobehind _ (by decide) (by decide) | rfl)) (by decide)) (cont_nx (dss_cons (ds_ifNo (dt_cmp (dc_eqS (t := .int) (de_var 0 rfl) de_int (hs := by rfl)) (h1 := by first | exact nobehind _ (by decide) (by decide) | rfl)) (by decide)) (cont_nx (dss_cons (ds_ifNo (dt_cmp (dc_eqS (t := .int) (de_var 0 rfl) de_int (hs := by rfl)) (h1 := by first | exact nobehind _ (by decide) (by decide) | rfl)) (by decide)) (cont_nx (dss_cons (ds_ifYes (dt_cmp (dc_eqS (t := .int) (de_var 0 rfl) de_int (hs := by rfl)) (h1 := by first | exact nobehind _ (by decide) (by decide) | rfl)) (by decide) (dss_one (ds_raise1 X6.XF3 tk hr (de_add (de_var 1 rfl) de_int) rfl (hg := by rfl) (hdb := by decide) (hc := by rfl) (hs := by rfl) (hpl := by rfl)))) cont_rt)))))))) (fun a pn ev1 => dss_one (ds_setFd 2 3 sc__law_caught.nd)) (hi := by rfl) (hln := by rfl) (hs := by rfl) (hf := by rfl) (hex := by rfl)) (cont_nx (dss_one (ds_ret (de_exv 2 3 X6.cs3))))))) rets_rt h (hΓ := by rfl) (hl := by exact Nat.le_of_ble_eq_true rfl)
    · exact body_F (t := .ex) (Γ0 := [.fr .int (4 : Int), .fr .int x_law_number, .un, .un]) (d := default) (dss_cons (ds_set 2 (de_none .int) sc__law_caught.nd) (cont_nx (dss_cons (show DS _ _ _ _ (.nx [.fr .int (4 : Int), .fr .int x_law_number, .fd (.xc (.ref C4) none 0), .un]) from ds_tryAs (c := .ref C4) (f := none) (o := .rt (.inl 0)) (oh := fun e => .nx [.fr .int (4 : Int), .fr .int x_law_number, .fd (.xc (.ref C4) none e), .fd (.xc (.ref C4) none e)]) 3 [.fr .int (4 : Int), .fr .int x_law_number, .fr (.opt .int) none, .un] ⟨rfl, by decide, .inl X6.gW⟩ X6.em4 sc__law_caught.nd (fun W pn xe tk pa => (dss_cons (ds_ifNo (dt_cmp (dc_eqS (t := .int) (de_var 0 rfl) de_int (hs := by rfl)) (h1 := by first | exact nobehind _ (by decide) (by decide) | rfl)) (by decide)) (cont_nx (dss_cons (ds_ifNo (dt_cmp (dc_eqS (t := .int) (de_var 0 rfl) de_int (hs := by rfl)) (h1 := by first | exact nobehind _ (by decide) (by decide) | rfl)) (by decide)) (cont_nx (dss_cons (ds_ifNo (dt_cmp (dc_eqS (t := .int) (de_var 0 rfl) de_int (hs := by rfl)) (h1 := by first | exact nobehind _ (by decide) (by decide) | rfl)) (by decide)) (cont_nx (dss_cons (ds_ifNo (dt_cmp (dc_eqS (t := .int) (de_var 0 rfl) de_int (hs := by rfl)) (h1 := by first | exact nobehind _ (by decide) (by decide) | rfl)) (by decide)) (cont_nx (dss_cons (ds_ifYes (dt_cmp (dc_eqS (t := .int) (de_var 0 rfl) de_int (hs := by rfl)) (h1 := by first | exact nobehind _ (by decide) (by decide) | rfl)) (by decide) (dss_one (ds_raise0 tk (pmk_own0 PySem.F.excBase_ValueError X6.q4 X6.g4 X6.k4 (raises_own X6.e4 X6.t4) (by rfl)) rfl))) cont_rt)))))))))) (fun a pn ev1 => dss_one (ds_setFd 2 3 sc__law_caught.nd)) (hi := by rfl) (hln := by rfl) (hs := by rfl) (hf := by rfl) (hex := by rfl)) (cont_nx (dss_one (ds_ret (de_exv 2 4 X6.cs4))))))) rets_rt h (hΓ := by rfl) (hl := by exact Nat.le_of_ble_eq_true rfl)
    · exact body_F (t := .ex) (Γ0 := [.fr .int (5 : Int), .fr .int x_law_number, .un, .un]) (d := default) (dss_cons (ds_set 2 (de_none .int) sc__law_caught.nd) (cont_nx (dss_cons (show DS _ _ _ _ (.nx [.fr .int (5 : Int), .fr .int x_law_number, .fd (.xc (.ref C5) none 0), .un]) from ds_tryAs (c := .ref C5) (f := none) (o := .rt (.inl 0)) (oh := fun e => .nx [.fr .int (5 : Int), .fr .int x_law_number, .fd (.xc (.ref C5) none e), .fd (.xc (.ref C5) none e)]) 3 [.fr .int (5 : Int), .fr .int x_law_number, .fr (.opt .int) none, .un] ⟨rfl, by decide, .inl X6.gW⟩ X6.em5 sc__law_caught.nd (fun W pn xe tk pa => (dss_cons (ds_ifNo (dt_cmp (dc_eqS (t := .int) (de_var 0 rfl) de_int (hs := by rfl)) (h1 := by first | exact nobehind _ (by decide) (by decide) | rfl)) (by decide)) (cont_nx (dss_cons (ds_ifNo (dt_cmp (dc_eqS (t := .int) (de_var 0 rfl) de_int (hs := by rfl)) (h1 := by first | exact nobehind _ (by decide) (by decide) | rfl)) (by decide)) (cont_nx (dss_cons (ds_ifNo (dt_cmp (dc_eqS (t := .int) (de_var 0 rfl) de_int (hs := by rfl)) (h1 := by first | exact nobehind _ (by decide) (by decide) | rfl)) (by decide)) (cont_nx (dss_cons (ds_ifNo (dt_cmp (dc_eqS (t := .int) (de_var 0 rfl) de_int (hs := by rfl)) (h1 := by first | exact nobehind _ (by decide) (by decide) | rfl)) (by decide)) (cont_nx (dss_cons (ds_ifNo (dt_cmp (dc_eqS (t := .int) (de_var 0 rfl) de_int (hs := by rfl)) (h1 := by first | exact nobehind _ (by decide) (by decide) | rfl)) (by decide)) (cont_nx (dss_one (ds_raise0 tk (pmk_own0 PySem.F.excBase_ValueError X6.q5 X6.g5 X6.k5 (raises_own X6.e5 X6.t5) (by rfl)) rfl))))))))))))) (fun a pn ev1 => dss_one (ds_setFd 2 3 sc__law_caught.nd)) (hi := by rfl) (hln := by rfl) (hs := by rfl) (hf := by rfl) (hex := by rfl)) (cont_nx (dss_one (ds_ret (de_exv 2 5 X6.cs5))))))) rets_rt h (hΓ := by rfl) (hl := by exact Nat.le_of_ble_eq_true rfl))
end Wk
set_option Elab.async false
set_option linter.all false
set_option maxRecDepth 100000
set_option maxHeartbeats 20000000
namespace Wk
open PySem PySem.Spec PyProof.Rows L2 TL Dn
variable [Tb0]
theorem w__law_take {P : Program} {w : World} {K : PySem.W.Frag} {mg : Str → Option Value} {base : Heap} (B : Bt mg) {C0 C1 C2 C3 C4 C5 CW : Addr} (X6 : Ex6 P w K mg base C0 C1 C2 C3 C4 C5 CW)  {f : Addr} {fd : FuncData} (F : Fun K "_law_take" "_law_take" st__law_take f fd) : FnG P w K mg base 1 f fd ["_law_box_here", "_law_many"] (pr__law_take K) :=
  fun_okG F sc__law_take (fun vs H Q E h => by obtain ⟨x_law_box_here, x_law_many, _, h⟩ := h; exact pm1_len h) (fun cdv A outer s H vs Q E hr h => by
    obtain ⟨x_law_box_here, x_law_many, hk, h⟩ := h
    refine ⟨_, pss_wp, ?_⟩
    exact body_B (t := .int) (Γ0 := [.ow true (.lst .int x_law_box_here), .fr .int x_law_many, .un, .un]) (d := default) (dss_cons (ds_if (dt_cmp (dc_gt (de_ixV (t := .int) 0 (default : Int) hk.1 de_int (h := rfl) (hN := by rfl) (hv := by first | exact Or.inl rfl | exact Or.inr (Or.inl rfl) | exact Or.inr (Or.inr rfl)) (h0 := by rfl) (hd := by decide) (hcd := by decide) (hs := by exact fun _ _ => rfl)) de_int) (h1 := by first | exact nobehind _ (by decide) (by decide) | rfl)) (fun hb1 => (dss_cons (ds_set 2 (de_mod (j := x_law_many) (hk.2.1 hb1).2.1 (de_ixV (t := .int) 0 (default : Int) (hk.2.1 hb1).1 de_int (h := rfl) (hN := by rfl) (hv := by first | exact Or.inl rfl | exact Or.inr (Or.inl rfl) | exact Or.inr (Or.inr rfl)) (h0 := by rfl) (hd := by decide) (hcd := by decide) (hs := by exact fun _ _ => rfl)) (de_var 1 rfl)) sc__law_take.nd) (cont_let1 (fun (v15 : Int) => [.ow true (.lst .int x_law_box_here), .fr .int x_law_many, .fr .int v15, .un]) (((Dn.get (default : Int) x_law_box_here (0 : Int)) % x_law_many)) (fun (v15 : Int) => (ok__law_take_2 (x_law_box_here) (x_law_many) (v15))) (hk.2.1 hb1).2.2 rfl (fun v15 hs14 => (dss_cons (ds_setix 0 hs14.2.2.1 (de_fdiv (j := (x_law_many)) hs14.2.1 (de_ixV (t := .int) 0 (default : Int) hs14.1 de_int (h := rfl) (hN := by rfl) (hv := by first | exact Or.inl rfl | exact Or.inr (Or.inl rfl) | exact Or.inr (Or.inr rfl)) (h0 := by rfl) (hd := by decide) (hcd := by decide) (hs := by exact fun _ _ => rfl)) (de_var 1 rfl)) de_int (h := rfl) (h0 := by rfl) (hN := by rfl) (hv := by first | exact Or.inl rfl | exact Or.inr (Or.inl rfl) | exact Or.inr (Or.inr rfl)) (hd := by decide) (hcd := by decide) (ha := by intro _; rfl) (hs := by rfl) (hw := by rfl) (h1 := by rfl)) (cont_let1 (fun (v13 : (List Int)) => [.ow true (.lst .int v13), .fr .int (x_law_many), .fr .int (v15), .un]) ((((x_law_box_here)).set (ix ((x_law_box_here)).length (0 : Int)) ((Dn.get (default : Int) (x_law_box_here) (0 : Int)) / (x_law_many)))) (fun (v13 : (List Int)) => (ok__law_take_7 (v13) ((v15)))) hs14.2.2.2 rfl (fun v13 hs12 => (dss_one (ds_retB (de_var 2 rfl) (h0 := rfl)))) rfl))) rfl))) (fun hb16 => dss_nil)) (cont_br (fun hb1 => cont_rt) (fun hb16 => (cont_nx (dss_cons (ds_set 3 (de_mod (j := (2147483647 : Int)) (by decide +kernel) (de_mul (hk.2.2.1 hb16).2.1 (de_ixV (t := .int) 0 (default : Int) (hk.2.2.1 hb16).1 de_int (h := rfl) (hN := by rfl) (hv := by first | exact Or.inl rfl | exact Or.inr (Or.inl rfl) | exact Or.inr (Or.inr rfl)) (h0 := by rfl) (hd := by decide) (hcd := by decide) (hs := by exact fun _ _ => rfl)) de_int) de_int) sc__law_take.nd) (cont_let1 (fun (v30 : Int) => [.ow true (.lst .int x_law_box_here), .fr .int x_law_many, .un, .fr .int v30]) ((((Dn.get (default : Int) x_law_box_here (1 : Int)) * (69623 : Int)) % (2147483647 : Int))) (fun (v30 : Int) => (ok__law_take_17 (x_law_box_here) (x_law_many) (v30))) (hk.2.2.1 hb16).2.2 rfl (fun v30 hs29 => (dss_cons (ds_setix 0 hs29.2.1 (de_add (de_mod (j := (2147483629 : Int)) (by decide +kernel) (de_add (de_mul hs29.1 (de_var 3 rfl) de_int) de_int) de_int) de_int) de_int (h := rfl) (h0 := by rfl) (hN := by rfl) (hv := by first | exact Or.inl rfl | exact Or.inr (Or.inl rfl) | exact Or.inr (Or.inr rfl)) (hd := by decide) (hcd := by decide) (ha := by intro _; rfl) (hs := by rfl) (hw := by rfl) (h1 := by rfl)) (cont_let1 (fun (v28 : (List Int)) => [.ow true (.lst .int v28), .fr .int (x_law_many), .un, .fr .int (v30)]) ((((x_law_box_here)).set (ix ((x_law_box_here)).length (1 : Int)) (((((v30) * (48271 : Int)) + (30103 : Int)) % (2147483629 : Int)) + (1 : Int)))) (fun (v28 : (List Int)) => (ok__law_take_22 (v28) ((x_law_many)) ((v30)))) hs29.2.2 rfl (fun v28 hs27 => (dss_one (ds_retB (de_mod (j := ((x_law_many))) hs27.2.2.1 (de_fdiv (j := (8191 : Int)) (by decide +kernel) (de_add (de_mul hs27.1 (de_var 3 rfl) de_int) (de_ixV (t := .int) 0 (default : Int) hs27.2.1 de_int (h := rfl) (hN := by rfl) (hv := by first | exact Or.inl rfl | exact Or.inr (Or.inl rfl) | exact Or.inr (Or.inr rfl)) (h0 := by rfl) (hd := by decide) (hcd := by decide) (hs := by exact fun _ _ => rfl))) de_int) (de_var 1 rfl)) (h0 := rfl)))) rfl))) rfl)))))) (rets_br rets_rt rets_rt) h (hΓ := by rfl) (hl := by exact Nat.le_of_ble_eq_true rfl))
end Wk
set_option Elab.async false
set_option linter.all false
set_option maxRecDepth 100000
set_option maxHeartbeats 20000000
namespace Wk
open PySem PySem.Spec PyProof.Rows L2 TL Dn
variable [Tb0]
theorem w__law_box {P : Program} {w : World} {K : PySem.W.Frag} {mg : Str → Option Value} {base : Heap} (B : Bt mg) {C0 C1 C2 C3 C4 C5 CW : Addr} (X6 : Ex6 P w K mg base C0 C1 C2 C3 C4 C5 CW)  {f : Addr} {fd : FuncData} (F : Fun K "_law_box" "_law_box" st__law_box f fd) : FnG P w K mg base 1 f fd ["_law_script", "_law_k"] (pr__law_box K) :=
  fun_okG F sc__law_box (fun vs H Q E h => by obtain ⟨x_law_script, x_law_k, _, h⟩ := h; exact pm0_len h) (fun cdv A outer s H vs Q E hr h => by
    obtain ⟨x_law_script, x_law_k, hk, h⟩ := h
    refine ⟨_, pss_wp, ?_⟩
    exact body_O (t := .int) (Γ0 := [.fr .scr x_law_script, .fr .int x_law_k, .un, .un]) (d := default) (dss_cons (ds_set 2 (de_add (de_mul hk.1 de_int (de_var 1 rfl)) de_int) sc__law_box.nd) (cont_let1 (fun (v30 : Int) => [.fr .scr x_law_script, .fr .int x_law_k, .fr .int v30, .un]) ((((7919 : Int) * x_law_k) + (11 : Int))) (fun (v30 : Int) => (ok__law_box_1 (x_law_script) (x_law_k) (v30))) hk.2 rfl (fun v30 hs29 => (dss_cons (ds_joinE (fun (s13 : Int) => [.fr .scr (x_law_script), .fr .int (x_law_k), .fr .int s13, .un]) (bif (decide ((x_law_k) < (((x_law_script)).length : Int))) then (Dn.get 0 (x_law_script) (x_law_k)) else (let j10 := (bif (decide ((0 : Int) < (((x_law_script)).length : Int))) then ((v30) + (((Dn.get 0 (x_law_script) ((x_law_k) % (((x_law_script)).length : Int))) % (2147483629 : Int)) * (69623 : Int))) else (v30)); j10)) rfl (ds_if (dt_cmp (dc_lt (de_var 1 rfl) (de_len (t := .int) B.z_len (dq_L (dl_scr (de_var 0 rfl))) (hg := by rfl) (hs := by rfl) (hpl := by rfl))) (h1 := by first | exact nobehind _ (by decide) (by decide) | rfl)) (fun hb6 => (dss_one (ds_set 2 (de_ixR (hs29.1 hb6).1 (de_var 0 rfl) (de_var 1 rfl) (hs := by exact fun _ _ => rfl)) sc__law_box.nd))) (fun hb7 => (dss_one (ds_joinE (fun (s11 : Int) => [.fr .scr (x_law_script), .fr .int (x_law_k), .fr .int s11, .un]) (bif (decide ((0 : Int) < (((x_law_script)).length : Int))) then ((v30) + (((Dn.get 0 (x_law_script) ((x_law_k) % (((x_law_script)).length : Int))) % (2147483629 : Int)) * (69623 : Int))) else (v30)) rfl (ds_if (dt_cmp (dc_gt (de_len (t := .int) B.z_len (dq_L (dl_scr (de_var 0 rfl))) (hg := by rfl) (hs := by rfl) (hpl := by rfl)) de_int) (h1 := by first | exact nobehind _ (by decide) (by decide) | rfl)) (fun hb8 => (dss_one (ds_set 2 (de_add (de_var 2 rfl) (de_mul ((hs29.2.1 hb7).1 hb8).2.2.1 (de_mod (j := (2147483629 : Int)) (by decide +kernel) (de_ixR ((hs29.2.1 hb7).1 hb8).2.1 (de_var 0 rfl) (de_mod (j := (((x_law_script)).length : Int)) ((hs29.2.1 hb7).1 hb8).1 (de_var 1 rfl) (de_len (t := .int) B.z_len (dq_L (dl_scr (de_var 0 rfl))) (hg := by rfl) (hs := by rfl) (hpl := by rfl))) (hs := by exact fun _ _ => rfl)) de_int) de_int)) sc__law_box.nd))) (fun hb9 => dss_nil)) (Nx.br (fun _ => (Nx.nx ent_refl)) (fun _ => (Nx.nx ent_refl))))))) (Nx.br (fun _ => (Nx.nx ent_refl)) (fun _ => (Nx.nx ent_refl)))) (cont_let1 (fun (v28 : Int) => [.fr .scr (x_law_script), .fr .int (x_law_k), .fr .int v28, .un]) (((bif (decide ((x_law_k) < (((x_law_script)).length : Int))) then (Dn.get 0 (x_law_script) (x_law_k)) else (let j10 := (bif (decide ((0 : Int) < (((x_law_script)).length : Int))) then ((v30) + (((Dn.get 0 (x_law_script) ((x_law_k) % (((x_law_script)).length : Int))) % (2147483629 : Int)) * (69623 : Int))) else (v30)); j10)))) (fun (v28 : Int) => (ok__law_box_14 ((x_law_k)) (v28))) hs29.2.2 rfl (fun v28 hs27 => (dss_cons (ds_set 3 (de_add (de_mod (j := (2147483629 : Int)) (by decide +kernel) (de_add (de_mul hs27.1 (de_mod (j := (2147483629 : Int)) (by decide +kernel) (de_var 2 rfl) de_int) de_int) (de_mul hs27.2.1 de_int (de_var 1 rfl))) de_int) de_int) sc__law_box.nd) (cont_let1 (fun (v26 : Int) => [.fr .scr ((x_law_script)), .fr .int ((x_law_k)), .fr .int (v28), .fr .int v26]) (((((((v28) % (2147483629 : Int)) * (48271 : Int)) + ((40692 : Int) * ((x_law_k)))) % (2147483629 : Int)) + (1 : Int))) (fun (v26 : Int) => (ok__law_box_19 ((v28)) (v26))) hs27.2.2 rfl (fun v26 hs25 => (dss_one (ds_retO (do_lst (t := .int) (dls_cons (de_ixL (t := .int) (default : Int) hs25.1 (de_frz (do_lst (t := .int) (dls_cons de_int (dls_cons (de_var 2 rfl) dls_nil (hs := by rfl)) (hs := by rfl)) (hz := by exact sz_of rfl))) (de_intB B.z_int (de_cmp (dc_ge (de_var 2 rfl) (de_pow (i := (10 : Int)) (j := (18 : Int)) ⟨by decide, by decide, by decide⟩ de_int de_int)) (h1 := by first | exact nobehind _ (by decide) (by decide) | rfl)) (hg := by rfl) (hs := by rfl) (hpl := by rfl)) (hs := by exact fun _ _ => rfl)) (dls_cons (de_var 3 rfl) dls_nil (hs := by rfl)) (hs := by rfl)) (hz := by exact sz_of rfl))))) rfl))) rfl))) rfl)) rets_rt h (hΓ := by rfl) (hl := by exact Nat.le_of_ble_eq_true rfl))
end Wk
set_option Elab.async false
set_option linter.all false
set_option maxRecDepth 100000
set_option maxHeartbeats 20000000
namespace Wk
open PySem PySem.Spec PyProof.Rows L2 TL Dn
variable [Tb0]
theorem w__law_kinds {P : Program} {w : World} {K : PySem.W.Frag} {mg : Str → Option Value} {base : Heap} (B : Bt mg) {C0 C1 C2 C3 C4 C5 CW : Addr} (X6 : Ex6 P w K mg base C0 C1 C2 C3 C4 C5 CW)  {f : Addr} {fd : FuncData} (F : Fun K "_law_kinds" "_law_kinds" st__law_kinds f fd) : FnG P w K mg base 1 f fd ["_law_e"] (pr__law_kinds K) :=
  fun_okG F sc__law_kinds (fun vs H Q E h => by obtain ⟨x_law_e, _, h⟩ := h; exact pm0_len h) (fun cdv A outer s H vs Q E hr h => by
    obtain ⟨x_law_e, hk, h⟩ := h
    refine ⟨_, pss_wp, ?_⟩
    exact body_F (t := (.lst .bool)) (Γ0 := [.fr .ex x_law_e]) (d := default) (dss_one (ds_ret (de_frz (do_lst (t := .bool) (dls_cons (de_isiEx (T := fun k => decide (k = 0)) B.z_isinstance (pe_glob (v := .ref C0) rfl X6.g0 rfl) isv_ref (X6.kt0 _ hk.1) (de_var 0 rfl)) (dls_cons (de_isiEx (T := fun k => decide (k = 1)) B.z_isinstance (pe_glob (v := .ref C1) rfl X6.g1 rfl) isv_ref (X6.kt1 _ hk.2.1) (de_var 0 rfl)) (dls_cons (de_isiEx (T := fun k => decide (k = 2)) B.z_isinstance (pe_glob (v := .ref C2) rfl X6.g2 rfl) isv_ref (X6.kt2 _ hk.2.2.1) (de_var 0 rfl)) (dls_cons (de_isiEx (T := fun k => decide (k = 3)) B.z_isinstance (pe_glob (v := .ref C3) rfl X6.g3 rfl) isv_ref (X6.kt3 _ hk.2.2.2.1) (de_var 0 rfl)) (dls_cons (de_isiEx (T := fun k => decide (k = 4)) B.z_isinstance (pe_glob (v := .ref C4) rfl X6.g4 rfl) isv_ref (X6.kt4 _ hk.2.2.2.2.1) (de_var 0 rfl)) (dls_cons (de_isiEx (T := fun k => decide (k = 5)) B.z_isinstance (pe_glob (v := .ref C5) rfl X6.g5 rfl) isv_ref (X6.kt5 _ hk.2.2.2.2.2.1) (de_var 0 rfl)) dls_nil (hs := by rfl)) (hs := by rfl)) (hs := by rfl)) (hs := by rfl)) (hs := by rfl)) (hs := by rfl)) (hz := by exact sz_of rfl))))) rets_rt h (hΓ := by rfl) (hl := by exact Nat.le_of_ble_eq_true rfl))
end Wk
set_option Elab.async false
set_option linter.all false
set_option maxRecDepth 100000
set_option maxHeartbeats 20000000
namespace Wk
open PySem PySem.Spec PyProof.Rows L2 TL Dn
variable [Tb0]
end Wk
set_option Elab.async false
set_option linter.all false
set_option maxRecDepth 100000
set_option maxHeartbeats 20000000
namespace Wk
open PySem PySem.Spec PyProof.Rows L2 TL Dn
variable [Tb0]
end Wk
set_option Elab.async false
set_option linter.all false
set_option maxRecDepth 10000
set_option maxHeartbeats 1000000
namespace Wk
open PySem Dn Mt
def Bx (b : List Int) : Prop := ∃ c s, b = [c, s] ∧ 0 ≤ c ∧ 0 < s ∧ s ≤ 2147483629
theorem sp_box {sc : List Int} {k : Int} (h0 : 0 ≤ k) (h1 : k ≤ 1000000) : ok__law_box sc k ∧ Bx (m__law_box sc k) := by
  have hm : ∀ cell : Int, ok__law_box_14 k cell ∧ Bx (m__law_box_14 k cell) := by
    intro cell
    have e1 : 0 ≤ cell % 2147483629 := Int.emod_nonneg _ (by decide)
    have e2 : cell % 2147483629 < 2147483629 := Int.emod_lt_of_pos _ (by decide)
    refine ⟨⟨Mt.mulOk (by omega) (by decide), Mt.mulOk (by decide) (by omega), ?_, trivial⟩, ?_⟩
    · unfold b2z
      by_cases h : (10 : Int) ^ Int.toNat 18 ≤ cell
      · simp only [h, decide_true, cond_true]; exact Mt.i21
      · simp only [h, decide_false, cond_false]; exact Mt.i20
    · refine ⟨_, _, rfl, ?_, ?_, ?_⟩
      · unfold b2z
        by_cases h : (10 : Int) ^ Int.toNat 18 ≤ cell
        · simp only [h, decide_true, cond_true]
          have : (0 : Int) ≤ cell := Int.le_trans (by decide) h
          exact this
        · simp only [h, decide_false, cond_false]; exact Int.le_refl _
      · have := Int.emod_nonneg ((cell % 2147483629) * 48271 + 40692 * k) (show (2147483629 : Int) ≠ 0 by decide)
        omega
      · have := Int.emod_lt_of_pos ((cell % 2147483629) * 48271 + 40692 * k) (show (0 : Int) < 2147483629 by decide)
        omega
  refine ⟨⟨Mt.mulOk (by decide) (by omega), ?_, ?_, (hm _).1⟩, (hm _).2⟩
  · intro h
    exact ⟨Mt.ixOk h0 (of_decide_eq_true h), trivial⟩
  · intro h
    refine ⟨fun h2 => ?_, trivial⟩
    have h3 := of_decide_eq_true h2
    have e1 : 0 ≤ k % (sc.length : Int) := Int.emod_nonneg _ (by omega)
    have e2 : k % (sc.length : Int) < sc.length := Int.emod_lt_of_pos _ h3
    have e3 : 0 ≤ (Dn.get 0 sc (k % (sc.length : Int))) % 2147483629 := Int.emod_nonneg _ (by decide)
    have e4 : (Dn.get 0 sc (k % (sc.length : Int))) % 2147483629 < 2147483629 := Int.emod_lt_of_pos _ (by decide)
    exact ⟨h3, Mt.ixOk e1 e2, Mt.mulOk (by omega) (by decide), trivial⟩
theorem sp_take {b : List Int} {n : Int} (hb : Bx b) (h0 : 0 < n) (h1 : n ≤ 1000000000000) : ok__law_take b n ∧ Bx (m__law_take b n).2 ∧ 0 ≤ (m__law_take b n).1 ∧ (m__law_take b n).1 < n := by
  obtain ⟨c, s, rfl, hc, hs, ht⟩ := hb
  by_cases h : 0 < c
  · have hd : decide (0 < (Dn.get (default : Int) [c, s] 0)) = true := decide_eq_true h
    refine ⟨⟨Mt.i20, fun _ => ⟨Mt.i20, h0, Mt.i20, Mt.divOk h0 (by omega), Mt.i20, trivial⟩, (fun q => by rw [hd] at q; cases q), trivial⟩, ?_⟩
    unfold m__law_take
    rw [hd]
    exact ⟨⟨c / n, s, rfl, Int.ediv_nonneg hc (by omega), hs, ht⟩, Int.emod_nonneg _ (by omega), Int.emod_lt_of_pos _ h0⟩
  · have hd : decide (0 < (Dn.get (default : Int) [c, s] 0)) = false := decide_eq_false h
    have e1 : 0 ≤ (s * 69623) % 2147483647 := Int.emod_nonneg _ (by decide)
    have e2 : (s * 69623) % 2147483647 < 2147483647 := Int.emod_lt_of_pos _ (by decide)
    refine ⟨⟨Mt.i20, (fun q => by rw [hd] at q; cases q), fun _ => ⟨Mt.i21, Mt.mulOk (by show s.natAbs < _; omega) (by decide), Mt.mulOk (by show ((s * 69623) % 2147483647).natAbs < _; omega) (by decide), Mt.i21, Mt.mulOk (by show ((s * 69623) % 2147483647).natAbs < _; omega) (by decide), Mt.i21, h0, trivial⟩, trivial⟩, ?_⟩
    unfold m__law_take
    rw [hd]
    have e3 := Int.emod_nonneg ((s * 69623) % 2147483647 * 48271 + 30103) (show (2147483629 : Int) ≠ 0 by decide)
    have e4 := Int.emod_lt_of_pos ((s * 69623) % 2147483647 * 48271 + 30103) (show (0 : Int) < 2147483629 by decide)
    exact ⟨⟨c, _, rfl, hc, by omega, by omega⟩, Int.emod_nonneg _ (by omega), Int.emod_lt_of_pos _ h0⟩
section
variable {α : Type} {P : α → Prop}
theorem tk {b : List Int} {n : Int} {f : Int × List Int → Rn α} (hb : Bx b) (h0 : 0 < n) (h1 : n ≤ 1000000000000) (k : ∀ t b', Bx b' → 0 ≤ t → t < n → Sp (f (t, b')) P) : Sp (Rn.bind (r__law_take b n) f) P :=
  Sp.bind (P := fun r => Bx r.2 ∧ 0 ≤ r.1 ∧ r.1 < n) (Sp.of (e__law_take b n) (sp_take hb h0 h1)) fun ⟨t, b'⟩ ⟨p, q, r⟩ => k t b' p q r
theorem bx {sc : List Int} {i : Int} {f : List Int → Rn α} (h0 : 0 ≤ i) (h1 : i ≤ 1000000) (k : ∀ b', Bx b' → Sp (f b') P) : Sp (Rn.bind (r__law_box sc i) f) P :=
  Sp.bind (P := Bx) (Sp.of (e__law_box sc i) (sp_box h0 h1)) k
end
theorem rngOk {n : Int} (h0 : -1000000 ≤ n) (h1 : n ≤ 1000000) : RngOk n := ⟨by omega, by omega⟩
theorem sz {n : Nat} (h : n ≤ 100000) : Sz n := h
theorem rl {n : Int} : (rng 0 n).length = n.toNat := by rw [rng_len]; congr 1; omega
theorem rng6 : rng 0 6 = [0, 1, 2, 3, 4, 5] := by unfold rng; rfl
def made (n : Int) : List (Nat × Int) := [(0, n), (1, n - 1), (2, n), (3, n + 1), (4, 0), (5, 0)]
theorem made_eq (n : Int) : List.map (fun (y23 : Int) => (m__law_caught y23 n)) (rng 0 (6 : Int)) = made n := by
  rw [rng6]; rfl
theorem zip_self {f : Int → List (Nat × Int)} : ∀ {l : List Int} {y : List (Nat × Int) × Int}, y ∈ List.zip (l.map f) l → y.1 = f y.2
  | [], y, h => by cases h
  | a :: l, y, h => by
    rw [List.map_cons, List.zip_cons_cons] at h
    rcases List.mem_cons.mp h with rfl | h
    · rfl
    · exact zip_self h
theorem sp_kind {j : Nat} {v : Int} (hj : j ≤ 5) : Sp (r_law_L41 () ((j : Int), (j, v))) (Sp.LpQ (fun _ => True) (fun _ => False) fun _ => False) := by
  unfold r_law_L41
  refine Sp.bind (Sp.of (P := fun r => r = m__law_kinds (j, v)) (e__law_kinds _) ⟨⟨hj, hj, hj, hj, hj, hj, trivial⟩, rfl⟩) fun w hw => ?_
  subst hw
  have e : m__law_kinds (j, v) = List.map (fun (y51 : Int) => (decide (y51 = (j : Int)))) (rng 0 (6 : Int)) := by
    rw [rng6]
    rcases (by omega : j = 0 ∨ j = 1 ∨ j = 2 ∨ j = 3 ∨ j = 4 ∨ j = 5) with rfl | rfl | rfl | rfl | rfl | rfl <;> rfl
  dsimp only
  rw [← e, decide_eq_true rfl]
  refine Sp.chk (rngOk (by omega) (by omega)) (Sp.chk (sz (by rw [rl]; decide)) (Sp.chk (fun _ => ⟨hj, trivial⟩) ?_))
  exact Sp.ifF (fun h => by cases h) fun _ => Sp.chk hj (Sp.if0 (fun h => by cases h) fun _ => Sp.ret trivial)
theorem sp_turn (n : Int) : Sp (r_law_L31 () (made n, n)) (Sp.LpQ (fun _ => True) (fun _ => False) fun r => r = true) := by
  unfold r_law_L31
  refine Sp.chk (Mt.ixOk (by omega) (show (0 : Int) < ((6 : Nat) : Int) by decide)) (Sp.chk rfl (Sp.chk (Mt.ixOk (by omega) (show (1 : Int) < ((6 : Nat) : Int) by decide)) (Sp.chk rfl (Sp.chk (Mt.ixOk (by omega) (show (2 : Int) < ((6 : Nat) : Int) by decide)) (Sp.chk rfl (Sp.chk (Mt.ixOk (by omega) (show (3 : Int) < ((6 : Nat) : Int) by decide)) (Sp.chk rfl ?_)))))))
  refine Sp.ifF (fun h => ?_) fun _ => ?_
  · have e : (decide ((((Dn.get (default : (Nat × Int)) (made n) (0 : Int))).2, ((Dn.get (default : (Nat × Int)) (made n) (1 : Int))).2, ((Dn.get (default : (Nat × Int)) (made n) (2 : Int))).2, ((Dn.get (default : (Nat × Int)) (made n) (3 : Int))).2) = (n, (n - (1 : Int)), n, (n + (1 : Int))))) = true := decide_eq_true rfl
    rw [e] at h
    cases h
  · refine Sp.lpTE (fun _ _ => True) (fun _ => False) (fun _ => False) trivial (fun z w i hw _ _ _ => ?_) (fun z _ => Sp.ret trivial) fun x hx => hx.elim
    have hw : w ∈ [((0 : Int), ((0 : Nat), n)), (1, (1, n - 1)), (2, (2, n)), (3, (3, n + 1)), (4, (4, 0)), (5, (5, 0))] := hw
    simp only [List.mem_cons, List.not_mem_nil, or_false] at hw
    rcases hw with rfl | rfl | rfl | rfl | rfl | rfl
    · exact sp_kind (j := 0) (by omega)
    · exact sp_kind (j := 1) (by omega)
    · exact sp_kind (j := 2) (by omega)
    · exact sp_kind (j := 3) (by omega)
    · exact sp_kind (j := 4) (by omega)
    · exact sp_kind (j := 5) (by omega)
theorem sp_law (ns : List Int) (hn : ns.length ≤ 63) : Sp (r_law ns) fun r => r = true := by
  refine bx (by omega) (by omega) fun b hb => ?_
  unfold r_law_1
  refine Sp.chk (rngOk (by omega) (by omega)) (Sp.chk (sz (by rw [rl]; decide)) ?_)
  refine Sp.maps (fun _ s => Bx s) (fun _ => True) hb (fun s y i hy hi _ hs => ?_) fun l s hs hl _ => ?_
  · refine tk hs (by omega) (by omega) fun t b hb _ _ => tk hb (by decide) (by decide) fun t2 b hb _ _ => tk hb (by omega) (by omega) fun t3 b hb h0 h1 => Sp.chk (Mt.ixOk h0 h1) (Sp.ret ⟨hb, trivial⟩)
  · have hl : l.length = 2 := by rw [hl, rl]; rfl
    show Sp (r_law_16 l) _
    unfold r_law_16
    refine Sp.chk (sz (by omega)) (Sp.chk (fun y hy => ⟨rngOk (by omega) (by omega), sz (by rw [rl]; decide), fun k hk => ⟨⟨by have := Mt.rng_mem hk; omega, trivial⟩, trivial⟩, trivial⟩) ?_)
    unfold r_law_25
    refine Sp.lpF (fun _ _ => True) (fun _ => False) trivial (fun s y i hy _ _ _ => ?_) fun s _ => Sp.ret rfl
    have e := zip_self hy
    obtain ⟨a, n⟩ := y
    have e : a = List.map (fun (y23 : Int) => (m__law_caught y23 n)) (rng 0 (6 : Int)) := e
    rw [made_eq] at e
    subst e
    exact sp_turn n
theorem fine (ns : List Int) (hl : ns.length ≤ 63) (_ : ∀ z ∈ ns, Builtin.Int.intBits z ≤ 1048576) : ok_law ns ∧ m_law ns = true := (sp_law ns hl).to (e_law ns)
end Wk
set_option Elab.async false
set_option linter.all false
set_option maxRecDepth 100000
set_option maxHeartbeats 20000000
namespace Wk
open PySem PySem.Spec PyProof.Rows L2 TL Dn
theorem pr_imp (K : PySem.W.Frag) (f : Nat → Value × Option Str) : ∀ vs H Q E, @pr_law tb0_none K vs H Q E → @pr_law { ts := [], cs := f } K vs H Q E := fun vs H Q E h => by
  obtain ⟨x, hk, G, ⟨s, t⟩, p, c⟩ := h
  refine ⟨x, hk, G, ⟨s, fun p m => by cases m⟩, ?_, fun v G' H' s1 s2 s3 s4 r => c v G' H' s1 s2 s3 s4 ?_⟩
  · cases p with
    | cons r q =>
      cases q
      exact .cons r .nil
  · exact r
theorem fn_imp {P : Program} {w : World} {K : PySem.W.Frag} {mg : Str → Option Value} {base : Heap} {k : Nat} {f : Addr} {fd : FuncData} {ps : List Str} {sp sp' : Sp} (F : FnG P w K mg base k f fd ps sp) (h : ∀ vs H Q E, sp' vs H Q E → sp vs H Q E) : FnG P w K mg base k f fd ps sp' :=
  ⟨fun vs H Q E q => F.len vs H Q E (h vs H Q E q), fun A outer s H cdv us vs Q E hr e0 bd rel q => F.run A outer s H cdv us vs Q E hr e0 bd rel (h vs H Q E q)⟩
theorem all_mk {l : PySem.W.OpenLaw} {w : World} {K : PySem.W.Frag} {h : Heap} {mg : Str → Option Value} {fa f1 f2 f3 f4 f5 : Addr} (X : K.In h) (G : h.Ns mainGlobals mg) (hfa : mg "law" = some (.ref fa))
    {od1 od2 od3 od4 od5 an1 an2 an3 an4 an5 : Option Addr} {sl1 sl2 sl3 sl4 sl5 : Array (Option Value)} {oc1 oc2 oc3 oc4 oc5 kV1 kV2 kV3 kV4 kV5 dc1 dc2 dc3 dc4 dc5 pm1 pm2 pm3 pm4 pm5 cd1 cd2 cd3 cd4 cd5 ct1 ct2 ct3 ct4 ct5 : Value}
    
    {CW : Addr}
    {C0 fI0 : Addr} {nmE0 qE0 : Str} {NE0 : Addr} {bsE0 : List Value} {snE0 : List Str} {subE0 : List Value} {abE0 : Bool} {colE0 : Option Bool} {ddE0 : Option Addr} {mE00 mE10 mE20 mE30 mE50 : Option Value} {odI0 anI0 : Option Addr} {slI0 : Array (Option Value)} {ocI0 kVI0 dcI0 pmI0 cdI0 ctI0 : Value}
    {C1 fI1 : Addr} {nmE1 qE1 : Str} {NE1 : Addr} {bsE1 : List Value} {snE1 : List Str} {subE1 : List Value} {abE1 : Bool} {colE1 : Option Bool} {ddE1 : Option Addr} {mE01 mE11 mE21 mE31 mE51 : Option Value} {odI1 anI1 : Option Addr} {slI1 : Array (Option Value)} {ocI1 kVI1 dcI1 pmI1 cdI1 ctI1 : Value}
    {C2 fI2 : Addr} {nmE2 qE2 : Str} {NE2 : Addr} {bsE2 : List Value} {snE2 : List Str} {subE2 : List Value} {abE2 : Bool} {colE2 : Option Bool} {ddE2 : Option Addr} {mE02 mE12 mE22 mE32 mE52 : Option Value} {odI2 anI2 : Option Addr} {slI2 : Array (Option Value)} {ocI2 kVI2 dcI2 pmI2 cdI2 ctI2 : Value}
    {C3 fI3 : Addr} {nmE3 qE3 : Str} {NE3 : Addr} {bsE3 : List Value} {snE3 : List Str} {subE3 : List Value} {abE3 : Bool} {colE3 : Option Bool} {ddE3 : Option Addr} {mE03 mE13 mE23 mE33 mE53 : Option Value} {odI3 anI3 : Option Addr} {slI3 : Array (Option Value)} {ocI3 kVI3 dcI3 pmI3 cdI3 ctI3 : Value}
    {C4 : Addr}
    {C5 : Addr}
    (a1 : PySem.W.nsIn K mainGlobals "_law_box" = some (some (.ref f1))) (l1 : K.lookup f1 = some ⟨oc1, od1, .func (PySem.W.fnOf "_law_box" "_law_box" (defArgs st__law_box) (defBody st__law_box) (defScope st__law_box) .none kV1 dc1 pm1 an1 cd1 ct1), sl1⟩) (c1 : PySem.W.codeIn K cd1 "_law_box" = true) (k1 : PySem.W.keepIn K (.ref f1) = true)
    (a2 : PySem.W.nsIn K mainGlobals "_law_take" = some (some (.ref f2))) (l2 : K.lookup f2 = some ⟨oc2, od2, .func (PySem.W.fnOf "_law_take" "_law_take" (defArgs st__law_take) (defBody st__law_take) (defScope st__law_take) .none kV2 dc2 pm2 an2 cd2 ct2), sl2⟩) (c2 : PySem.W.codeIn K cd2 "_law_take" = true) (k2 : PySem.W.keepIn K (.ref f2) = true)
    (a3 : PySem.W.nsIn K mainGlobals "_law_caught" = some (some (.ref f3))) (l3 : K.lookup f3 = some ⟨oc3, od3, .func (PySem.W.fnOf "_law_caught" "_law_caught" (defArgs st__law_caught) (defBody st__law_caught) (defScope st__law_caught) .none kV3 dc3 pm3 an3 cd3 ct3), sl3⟩) (c3 : PySem.W.codeIn K cd3 "_law_caught" = true) (k3 : PySem.W.keepIn K (.ref f3) = true)
    (a4 : PySem.W.nsIn K mainGlobals "_law_kinds" = some (some (.ref f4))) (l4 : K.lookup f4 = some ⟨oc4, od4, .func (PySem.W.fnOf "_law_kinds" "_law_kinds" (defArgs st__law_kinds) (defBody st__law_kinds) (defScope st__law_kinds) .none kV4 dc4 pm4 an4 cd4 ct4), sl4⟩) (c4 : PySem.W.codeIn K cd4 "_law_kinds" = true) (k4 : PySem.W.keepIn K (.ref f4) = true)
    (a5 : PySem.W.nsIn K mainGlobals "law" = some (some (.ref f5))) (l5 : K.lookup f5 = some ⟨oc5, od5, .func (PySem.W.fnOf "law" "law" (defArgs st_law) (defBody st_law) (defScope st_law) .none kV5 dc5 pm5 an5 cd5 ct5), sl5⟩) (c5 : PySem.W.codeIn K cd5 "law" = true) (k5 : PySem.W.keepIn K (.ref f5) = true)
    (xW : PySem.W.nsIn K mainGlobals "WalkError" = some (some (.ref CW))) (xhn : PySem.W.specialIn K (.builtin "object.__class__") "__get__" = some (some (.builtin "getset_descriptor.__get__"))) (xht : PySem.W.takesIn K (.builtin "object.__class__") = some true) (xbW : PySem.W.subIn K (.ref CW) (.type "BaseException") = some true) (xdW : PySem.W.hasDictIn K CW = true) (xtW : PySem.W.typeIn K (.ref CW) = some (.type "type")) (xBa : PySem.W.specialIn K (.ref CW) "__getattribute__" = some (some (.builtin "type.__getattribute__"))) (xBr : PySem.W.readsIn K CW (.type "type") = true) (xBi : PySem.W.findCls K (.ref CW) (.type "type") "__init__" = some (.val (.builtin "ValueError.__init__"))) (n0E : PySem.W.nsIn K mainGlobals "NoBoard" = some (some (.ref C0))) (n0L : K.lookup C0 = some (excClassObj nmE0 qE0 C0 NE0 bsE0 [.ref CW, .type "ValueError", .type "Exception", .type "BaseException", .type "object"] true snE0 subE0 abE0 colE0 ddE0 mE00 mE10 mE20 mE30 mE50 "ValueError.__new__")) (n0sa : PySem.W.findIn K (.ref C0) "__setattr__" = some (some (.builtin "object.__setattr__"))) (n0eC : PySem.W.subIn K (.ref C0) (.type "BaseException") = some true) (n0tC : PySem.W.typeIn K (.ref C0) = some (.type "type")) (n0kC : PySem.W.keepIn K (.ref C0) = true) (n0ga : PySem.W.findIn K (.ref C0) "__getattribute__" = some (some (.builtin "BaseException.__getattribute__"))) (n0gg : PySem.W.findIn K (.ref C0) "__getattr__" = some none) (n0ha : PySem.W.findIn K (.ref C0) "__class__" = some (some (.builtin "object.__class__"))) (n0hm : PySem.W.mroIn K C0 (.type "object") = some true) (n0hd : PySem.W.hasDictIn K C0 = true) (n0sW : PySem.W.subIn K (.ref C0) (.ref CW) = some true) (n0no : PySem.W.findIn K (.ref C0) "at" = some none) (n0iC : PySem.W.findIn K (.ref C0) "__init__" = some (some (.ref fI0))) (n0tI : PySem.W.typeIn K (.ref fI0) = some (.type "function")) (n0lI : K.lookup fI0 = some ⟨ocI0, odI0, .func (PySem.W.fnOf "__init__" "NoBoard.__init__" (defArgs st_init0) (defBody st_init0) (defScope st_init0) .none kVI0 dcI0 pmI0 anI0 cdI0 ctI0), slI0⟩) (n0cI : PySem.W.codeIn K cdI0 "NoBoard.__init__" = true) (n0kI : PySem.W.keepIn K (.ref fI0) = true) (n1E : PySem.W.nsIn K mainGlobals "NoMap" = some (some (.ref C1))) (n1L : K.lookup C1 = some (excClassObj nmE1 qE1 C1 NE1 bsE1 [.ref CW, .type "ValueError", .type "Exception", .type "BaseException", .type "object"] true snE1 subE1 abE1 colE1 ddE1 mE01 mE11 mE21 mE31 mE51 "ValueError.__new__")) (n1sa : PySem.W.findIn K (.ref C1) "__setattr__" = some (some (.builtin "object.__setattr__"))) (n1eC : PySem.W.subIn K (.ref C1) (.type "BaseException") = some true) (n1tC : PySem.W.typeIn K (.ref C1) = some (.type "type")) (n1kC : PySem.W.keepIn K (.ref C1) = true) (n1ga : PySem.W.findIn K (.ref C1) "__getattribute__" = some (some (.builtin "BaseException.__getattribute__"))) (n1gg : PySem.W.findIn K (.ref C1) "__getattr__" = some none) (n1ha : PySem.W.findIn K (.ref C1) "__class__" = some (some (.builtin "object.__class__"))) (n1hm : PySem.W.mroIn K C1 (.type "object") = some true) (n1hd : PySem.W.hasDictIn K C1 = true) (n1sW : PySem.W.subIn K (.ref C1) (.ref CW) = some true) (n1no : PySem.W.findIn K (.ref C1) "at" = some none) (n1iC : PySem.W.findIn K (.ref C1) "__init__" = some (some (.ref fI1))) (n1tI : PySem.W.typeIn K (.ref fI1) = some (.type "function")) (n1lI : K.lookup fI1 = some ⟨ocI1, odI1, .func (PySem.W.fnOf "__init__" "NoMap.__init__" (defArgs st_init1) (defBody st_init1) (defScope st_init1) .none kVI1 dcI1 pmI1 anI1 cdI1 ctI1), slI1⟩) (n1cI : PySem.W.codeIn K cdI1 "NoMap.__init__" = true) (n1kI : PySem.W.keepIn K (.ref fI1) = true) (n2E : PySem.W.nsIn K mainGlobals "BadText" = some (some (.ref C2))) (n2L : K.lookup C2 = some (excClassObj nmE2 qE2 C2 NE2 bsE2 [.ref CW, .type "ValueError", .type "Exception", .type "BaseException", .type "object"] true snE2 subE2 abE2 colE2 ddE2 mE02 mE12 mE22 mE32 mE52 "ValueError.__new__")) (n2sa : PySem.W.findIn K (.ref C2) "__setattr__" = some (some (.builtin "object.__setattr__"))) (n2eC : PySem.W.subIn K (.ref C2) (.type "BaseException") = some true) (n2tC : PySem.W.typeIn K (.ref C2) = some (.type "type")) (n2kC : PySem.W.keepIn K (.ref C2) = true) (n2ga : PySem.W.findIn K (.ref C2) "__getattribute__" = some (some (.builtin "BaseException.__getattribute__"))) (n2gg : PySem.W.findIn K (.ref C2) "__getattr__" = some none) (n2ha : PySem.W.findIn K (.ref C2) "__class__" = some (some (.builtin "object.__class__"))) (n2hm : PySem.W.mroIn K C2 (.type "object") = some true) (n2hd : PySem.W.hasDictIn K C2 = true) (n2sW : PySem.W.subIn K (.ref C2) (.ref CW) = some true) (n2no : PySem.W.findIn K (.ref C2) "row" = some none) (n2iC : PySem.W.findIn K (.ref C2) "__init__" = some (some (.ref fI2))) (n2tI : PySem.W.typeIn K (.ref fI2) = some (.type "function")) (n2lI : K.lookup fI2 = some ⟨ocI2, odI2, .func (PySem.W.fnOf "__init__" "BadText.__init__" (defArgs st_init2) (defBody st_init2) (defScope st_init2) .none kVI2 dcI2 pmI2 anI2 cdI2 ctI2), slI2⟩) (n2cI : PySem.W.codeIn K cdI2 "BadText.__init__" = true) (n2kI : PySem.W.keepIn K (.ref fI2) = true) (n3E : PySem.W.nsIn K mainGlobals "TooMany" = some (some (.ref C3))) (n3L : K.lookup C3 = some (excClassObj nmE3 qE3 C3 NE3 bsE3 [.ref CW, .type "ValueError", .type "Exception", .type "BaseException", .type "object"] true snE3 subE3 abE3 colE3 ddE3 mE03 mE13 mE23 mE33 mE53 "ValueError.__new__")) (n3sa : PySem.W.findIn K (.ref C3) "__setattr__" = some (some (.builtin "object.__setattr__"))) (n3eC : PySem.W.subIn K (.ref C3) (.type "BaseException") = some true) (n3tC : PySem.W.typeIn K (.ref C3) = some (.type "type")) (n3kC : PySem.W.keepIn K (.ref C3) = true) (n3ga : PySem.W.findIn K (.ref C3) "__getattribute__" = some (some (.builtin "BaseException.__getattribute__"))) (n3gg : PySem.W.findIn K (.ref C3) "__getattr__" = some none) (n3ha : PySem.W.findIn K (.ref C3) "__class__" = some (some (.builtin "object.__class__"))) (n3hm : PySem.W.mroIn K C3 (.type "object") = some true) (n3hd : PySem.W.hasDictIn K C3 = true) (n3sW : PySem.W.subIn K (.ref C3) (.ref CW) = some true) (n3no : PySem.W.findIn K (.ref C3) "most" = some none) (n3iC : PySem.W.findIn K (.ref C3) "__init__" = some (some (.ref fI3))) (n3tI : PySem.W.typeIn K (.ref fI3) = some (.type "function")) (n3lI : K.lookup fI3 = some ⟨ocI3, odI3, .func (PySem.W.fnOf "__init__" "TooMany.__init__" (defArgs st_init3) (defBody st_init3) (defScope st_init3) .none kVI3 dcI3 pmI3 anI3 cdI3 ctI3), slI3⟩) (n3cI : PySem.W.codeIn K cdI3 "TooMany.__init__" = true) (n3kI : PySem.W.keepIn K (.ref fI3) = true) (n4E : PySem.W.nsIn K mainGlobals "IsFixed" = some (some (.ref C4))) (n4q0 : PySem.W.excIn K C4 [.type "ValueError", .type "Exception", .type "BaseException", .type "object"] "ValueError.__new__" = true) (n4eC : PySem.W.subIn K (.ref C4) (.type "BaseException") = some true) (n4tC : PySem.W.typeIn K (.ref C4) = some (.type "type")) (n4kC : PySem.W.keepIn K (.ref C4) = true) (n4ga : PySem.W.findIn K (.ref C4) "__getattribute__" = some (some (.builtin "BaseException.__getattribute__"))) (n4gg : PySem.W.findIn K (.ref C4) "__getattr__" = some none) (n4ha : PySem.W.findIn K (.ref C4) "__class__" = some (some (.builtin "object.__class__"))) (n4hm : PySem.W.mroIn K C4 (.type "object") = some true) (n4hd : PySem.W.hasDictIn K C4 = true) (n4sW : PySem.W.subIn K (.ref C4) (.ref CW) = some true) (n5E : PySem.W.nsIn K mainGlobals "NoRow" = some (some (.ref C5))) (n5q0 : PySem.W.excIn K C5 [.type "ValueError", .type "Exception", .type "BaseException", .type "object"] "ValueError.__new__" = true) (n5eC : PySem.W.subIn K (.ref C5) (.type "BaseException") = some true) (n5tC : PySem.W.typeIn K (.ref C5) = some (.type "type")) (n5kC : PySem.W.keepIn K (.ref C5) = true) (n5ga : PySem.W.findIn K (.ref C5) "__getattribute__" = some (some (.builtin "BaseException.__getattribute__"))) (n5gg : PySem.W.findIn K (.ref C5) "__getattr__" = some none) (n5ha : PySem.W.findIn K (.ref C5) "__class__" = some (some (.builtin "object.__class__"))) (n5hm : PySem.W.mroIn K C5 (.type "object") = some true) (n5hd : PySem.W.hasDictIn K C5 = true) (n5sW : PySem.W.subIn K (.ref C5) (.ref CW) = some true) (kt_0_0 : PySem.W.kitOne K (.ref C0) (.ref C0) = some true) (kt_0_1 : PySem.W.kitOne K (.ref C0) (.ref C1) = some false) (kt_0_2 : PySem.W.kitOne K (.ref C0) (.ref C2) = some false) (kt_0_3 : PySem.W.kitOne K (.ref C0) (.ref C3) = some false) (kt_0_4 : PySem.W.kitOne K (.ref C0) (.ref C4) = some false) (kt_0_5 : PySem.W.kitOne K (.ref C0) (.ref C5) = some false) (kt_0_W : PySem.W.kitOne K (.ref C0) (.ref CW) = some true) (kt_0_V : PySem.W.kitOne K (.ref C0) (.type "ValueError") = some true) (kt_1_0 : PySem.W.kitOne K (.ref C1) (.ref C0) = some false) (kt_1_1 : PySem.W.kitOne K (.ref C1) (.ref C1) = some true) (kt_1_2 : PySem.W.kitOne K (.ref C1) (.ref C2) = some false) (kt_1_3 : PySem.W.kitOne K (.ref C1) (.ref C3) = some false) (kt_1_4 : PySem.W.kitOne K (.ref C1) (.ref C4) = some false) (kt_1_5 : PySem.W.kitOne K (.ref C1) (.ref C5) = some false) (kt_1_W : PySem.W.kitOne K (.ref C1) (.ref CW) = some true) (kt_1_V : PySem.W.kitOne K (.ref C1) (.type "ValueError") = some true) (kt_2_0 : PySem.W.kitOne K (.ref C2) (.ref C0) = some false) (kt_2_1 : PySem.W.kitOne K (.ref C2) (.ref C1) = some false) (kt_2_2 : PySem.W.kitOne K (.ref C2) (.ref C2) = some true) (kt_2_3 : PySem.W.kitOne K (.ref C2) (.ref C3) = some false) (kt_2_4 : PySem.W.kitOne K (.ref C2) (.ref C4) = some false) (kt_2_5 : PySem.W.kitOne K (.ref C2) (.ref C5) = some false) (kt_2_W : PySem.W.kitOne K (.ref C2) (.ref CW) = some true) (kt_2_V : PySem.W.kitOne K (.ref C2) (.type "ValueError") = some true) (kt_3_0 : PySem.W.kitOne K (.ref C3) (.ref C0) = some false) (kt_3_1 : PySem.W.kitOne K (.ref C3) (.ref C1) = some false) (kt_3_2 : PySem.W.kitOne K (.ref C3) (.ref C2) = some false) (kt_3_3 : PySem.W.kitOne K (.ref C3) (.ref C3) = some true) (kt_3_4 : PySem.W.kitOne K (.ref C3) (.ref C4) = some false) (kt_3_5 : PySem.W.kitOne K (.ref C3) (.ref C5) = some false) (kt_3_W : PySem.W.kitOne K (.ref C3) (.ref CW) = some true) (kt_3_V : PySem.W.kitOne K (.ref C3) (.type "ValueError") = some true) (kt_4_0 : PySem.W.kitOne K (.ref C4) (.ref C0) = some false) (kt_4_1 : PySem.W.kitOne K (.ref C4) (.ref C1) = some false) (kt_4_2 : PySem.W.kitOne K (.ref C4) (.ref C2) = some false) (kt_4_3 : PySem.W.kitOne K (.ref C4) (.ref C3) = some false) (kt_4_4 : PySem.W.kitOne K (.ref C4) (.ref C4) = some true) (kt_4_5 : PySem.W.kitOne K (.ref C4) (.ref C5) = some false) (kt_4_W : PySem.W.kitOne K (.ref C4) (.ref CW) = some true) (kt_4_V : PySem.W.kitOne K (.ref C4) (.type "ValueError") = some true) (kt_5_0 : PySem.W.kitOne K (.ref C5) (.ref C0) = some false) (kt_5_1 : PySem.W.kitOne K (.ref C5) (.ref C1) = some false) (kt_5_2 : PySem.W.kitOne K (.ref C5) (.ref C2) = some false) (kt_5_3 : PySem.W.kitOne K (.ref C5) (.ref C3) = some false) (kt_5_4 : PySem.W.kitOne K (.ref C5) (.ref C4) = some false) (kt_5_5 : PySem.W.kitOne K (.ref C5) (.ref C5) = some true) (kt_5_W : PySem.W.kitOne K (.ref C5) (.ref CW) = some true) (kt_5_V : PySem.W.kitOne K (.ref C5) (.type "ValueError") = some true) (z1 : PySem.W.nsIn K mainGlobals "ValueError" = some none) (z2 : PySem.W.nsIn K mainGlobals "enumerate" = some none) (z3 : PySem.W.nsIn K mainGlobals "int" = some none) (z4 : PySem.W.nsIn K mainGlobals "isinstance" = some none) (z5 : PySem.W.nsIn K mainGlobals "len" = some none) (z6 : PySem.W.nsIn K mainGlobals "range" = some none) (z7 : PySem.W.nsIn K mainGlobals "zip" = some none) :
    ∃ fd : FuncData, (∀ (s : Shared) (v : Value), BindsTo s fd ⟨[v], []⟩ [("_law_script", v)]) ∧ ∀ base : Heap, K.In base → base.Ns mainGlobals mg → FnG l.prog w K mg base 4 fa fd ["_law_script"] (pr_law K) := by
  have e := hfa.symm.trans (PySem.W.mg_of X G a5)
  cases e
  have B : Bt mg := ⟨PySem.W.mg_none_of X G z1, PySem.W.mg_none_of X G z2, PySem.W.mg_none_of X G z3, PySem.W.mg_none_of X G z4, PySem.W.mg_none_of X G z5, PySem.W.mg_none_of X G z6, PySem.W.mg_none_of X G z7⟩
  have F1 := fun_mk (st := st__law_box) l1 c1 k1
  have b1 := F1.binds (ps := ["_law_script", "_law_k"]) fun _ _ _ _ _ _ us hl => match us, hl with | [_, _], _ => rfl
  have F2 := fun_mk (st := st__law_take) l2 c2 k2
  have b2 := F2.binds (ps := ["_law_box_here", "_law_many"]) fun _ _ _ _ _ _ us hl => match us, hl with | [_, _], _ => rfl
  have F3 := fun_mk (st := st__law_caught) l3 c3 k3
  have b3 := F3.binds (ps := ["_law_k", "_law_number"]) fun _ _ _ _ _ _ us hl => match us, hl with | [_, _], _ => rfl
  have F4 := fun_mk (st := st__law_kinds) l4 c4 k4
  have b4 := F4.binds (ps := ["_law_e"]) fun _ _ _ _ _ _ us hl => match us, hl with | [_], _ => rfl
  have F5 := fun_mk (st := st_law) l5 c5 k5
  refine ⟨PySem.W.fnOf "law" "law" (defArgs st_law) (defBody st_law) (defScope st_law) .none kV5 dc5 pm5 an5 cd5 ct5, fun s v => .of_eq rfl, fun base _ _ => ?_⟩
  letI : Tb0 := { ts := [], cs := fun k => match k with | 0 => (.ref C0, some ("at" : Str)) | 1 => (.ref C1, some ("at" : Str)) | 2 => (.ref C2, some ("row" : Str)) | 3 => (.ref C3, some ("most" : Str)) | 4 => (.ref C4, none) | 5 => (.ref C5, none) | _ => (.none, none) }
  have FI0 := fun_mk (st := st_init0) n0lI n0cI n0kI
  have bI0 := FI0.binds (ps := ["self", "at"]) fun _ _ _ _ _ _ us hl => match us, hl with | [_, _], _ => rfl
  have XF0 : XcF l.prog w K mg base "NoBoard" C0 "at" := ⟨⟨⟨nmE0, qE0, NE0, bsE0, _, snE0, subE0, abE0, colE0, ddE0, mE00, mE10, mE20, mE30, mE50, n0L, by rfl⟩, n0sa, n0eC, n0tC, n0kC⟩, PySem.W.mg_of X G n0E, n0no, fI0, _, "at", n0iC, n0tI, w_init0 FI0 ⟨xBa, xBr, xBi⟩ (PySem.W.mg_of X G xW), bI0⟩
  have ek0 : ExcK K C0 := ⟨by obtain ⟨cd, hc, _⟩ := PySem.W.any_some n0hd; rw [hc]; rfl, n0ga, n0gg, n0eC, n0ha, xhn, xht, n0hm⟩
  have FI1 := fun_mk (st := st_init1) n1lI n1cI n1kI
  have bI1 := FI1.binds (ps := ["self", "at"]) fun _ _ _ _ _ _ us hl => match us, hl with | [_, _], _ => rfl
  have XF1 : XcF l.prog w K mg base "NoMap" C1 "at" := ⟨⟨⟨nmE1, qE1, NE1, bsE1, _, snE1, subE1, abE1, colE1, ddE1, mE01, mE11, mE21, mE31, mE51, n1L, by rfl⟩, n1sa, n1eC, n1tC, n1kC⟩, PySem.W.mg_of X G n1E, n1no, fI1, _, "at", n1iC, n1tI, w_init1 FI1 ⟨xBa, xBr, xBi⟩ (PySem.W.mg_of X G xW), bI1⟩
  have ek1 : ExcK K C1 := ⟨by obtain ⟨cd, hc, _⟩ := PySem.W.any_some n1hd; rw [hc]; rfl, n1ga, n1gg, n1eC, n1ha, xhn, xht, n1hm⟩
  have FI2 := fun_mk (st := st_init2) n2lI n2cI n2kI
  have bI2 := FI2.binds (ps := ["self", "row"]) fun _ _ _ _ _ _ us hl => match us, hl with | [_, _], _ => rfl
  have XF2 : XcF l.prog w K mg base "BadText" C2 "row" := ⟨⟨⟨nmE2, qE2, NE2, bsE2, _, snE2, subE2, abE2, colE2, ddE2, mE02, mE12, mE22, mE32, mE52, n2L, by rfl⟩, n2sa, n2eC, n2tC, n2kC⟩, PySem.W.mg_of X G n2E, n2no, fI2, _, "row", n2iC, n2tI, w_init2 FI2 ⟨xBa, xBr, xBi⟩ (PySem.W.mg_of X G xW), bI2⟩
  have ek2 : ExcK K C2 := ⟨by obtain ⟨cd, hc, _⟩ := PySem.W.any_some n2hd; rw [hc]; rfl, n2ga, n2gg, n2eC, n2ha, xhn, xht, n2hm⟩
  have FI3 := fun_mk (st := st_init3) n3lI n3cI n3kI
  have bI3 := FI3.binds (ps := ["self", "most"]) fun _ _ _ _ _ _ us hl => match us, hl with | [_, _], _ => rfl
  have XF3 : XcF l.prog w K mg base "TooMany" C3 "most" := ⟨⟨⟨nmE3, qE3, NE3, bsE3, _, snE3, subE3, abE3, colE3, ddE3, mE03, mE13, mE23, mE33, mE53, n3L, by rfl⟩, n3sa, n3eC, n3tC, n3kC⟩, PySem.W.mg_of X G n3E, n3no, fI3, _, "most", n3iC, n3tI, w_init3 FI3 ⟨xBa, xBr, xBi⟩ (PySem.W.mg_of X G xW), bI3⟩
  have ek3 : ExcK K C3 := ⟨by obtain ⟨cd, hc, _⟩ := PySem.W.any_some n3hd; rw [hc]; rfl, n3ga, n3gg, n3eC, n3ha, xhn, xht, n3hm⟩
  have ek4 : ExcK K C4 := ⟨by obtain ⟨cd, hc, _⟩ := PySem.W.any_some n4hd; rw [hc]; rfl, n4ga, n4gg, n4eC, n4ha, xhn, xht, n4hm⟩
  have ek5 : ExcK K C5 := ⟨by obtain ⟨cd, hc, _⟩ := PySem.W.any_some n5hd; rw [hc]; rfl, n5ga, n5gg, n5eC, n5ha, xhn, xht, n5hm⟩
  have X6 : Ex6 l.prog w K mg base C0 C1 C2 C3 C4 C5 CW := {gW := PySem.W.mg_of X G xW, g0 := PySem.W.mg_of X G n0E, cs0 := rfl, ek0 := ⟨by obtain ⟨cd, hc, _⟩ := PySem.W.any_some n0hd; rw [hc]; rfl, n0ga, n0gg, n0eC, n0ha, xhn, xht, n0hm⟩, em0 := PySem.W.exm_ref xbW xdW xtW n0sW, XF0 := XF0, xf0 := ⟨n0ga, n0gg, n0eC, n0hd⟩, no0 := n0no, g1 := PySem.W.mg_of X G n1E, cs1 := rfl, ek1 := ⟨by obtain ⟨cd, hc, _⟩ := PySem.W.any_some n1hd; rw [hc]; rfl, n1ga, n1gg, n1eC, n1ha, xhn, xht, n1hm⟩, em1 := PySem.W.exm_ref xbW xdW xtW n1sW, XF1 := XF1, xf1 := ⟨n1ga, n1gg, n1eC, n1hd⟩, no1 := n1no, g2 := PySem.W.mg_of X G n2E, cs2 := rfl, ek2 := ⟨by obtain ⟨cd, hc, _⟩ := PySem.W.any_some n2hd; rw [hc]; rfl, n2ga, n2gg, n2eC, n2ha, xhn, xht, n2hm⟩, em2 := PySem.W.exm_ref xbW xdW xtW n2sW, XF2 := XF2, xf2 := ⟨n2ga, n2gg, n2eC, n2hd⟩, no2 := n2no, g3 := PySem.W.mg_of X G n3E, cs3 := rfl, ek3 := ⟨by obtain ⟨cd, hc, _⟩ := PySem.W.any_some n3hd; rw [hc]; rfl, n3ga, n3gg, n3eC, n3ha, xhn, xht, n3hm⟩, em3 := PySem.W.exm_ref xbW xdW xtW n3sW, XF3 := XF3, xf3 := ⟨n3ga, n3gg, n3eC, n3hd⟩, no3 := n3no, g4 := PySem.W.mg_of X G n4E, cs4 := rfl, ek4 := ⟨by obtain ⟨cd, hc, _⟩ := PySem.W.any_some n4hd; rw [hc]; rfl, n4ga, n4gg, n4eC, n4ha, xhn, xht, n4hm⟩, em4 := PySem.W.exm_ref xbW xdW xtW n4sW, q4 := n4q0, k4 := n4kC, e4 := n4eC, t4 := n4tC, g5 := PySem.W.mg_of X G n5E, cs5 := rfl, ek5 := ⟨by obtain ⟨cd, hc, _⟩ := PySem.W.any_some n5hd; rw [hc]; rfl, n5ga, n5gg, n5eC, n5ha, xhn, xht, n5hm⟩, em5 := PySem.W.exm_ref xbW xdW xtW n5sW, q5 := n5q0, k5 := n5kC, e5 := n5eC, t5 := n5tC, kt0 := fun k hk => match k, hk with | 0, _ => ⟨C0, _, rfl, ek0, kt_0_0⟩ | 1, _ => ⟨C1, _, rfl, ek1, kt_1_0⟩ | 2, _ => ⟨C2, _, rfl, ek2, kt_2_0⟩ | 3, _ => ⟨C3, _, rfl, ek3, kt_3_0⟩ | 4, _ => ⟨C4, _, rfl, ek4, kt_4_0⟩ | 5, _ => ⟨C5, _, rfl, ek5, kt_5_0⟩ | k + 6, hk => absurd hk (by omega), kt1 := fun k hk => match k, hk with | 0, _ => ⟨C0, _, rfl, ek0, kt_0_1⟩ | 1, _ => ⟨C1, _, rfl, ek1, kt_1_1⟩ | 2, _ => ⟨C2, _, rfl, ek2, kt_2_1⟩ | 3, _ => ⟨C3, _, rfl, ek3, kt_3_1⟩ | 4, _ => ⟨C4, _, rfl, ek4, kt_4_1⟩ | 5, _ => ⟨C5, _, rfl, ek5, kt_5_1⟩ | k + 6, hk => absurd hk (by omega), kt2 := fun k hk => match k, hk with | 0, _ => ⟨C0, _, rfl, ek0, kt_0_2⟩ | 1, _ => ⟨C1, _, rfl, ek1, kt_1_2⟩ | 2, _ => ⟨C2, _, rfl, ek2, kt_2_2⟩ | 3, _ => ⟨C3, _, rfl, ek3, kt_3_2⟩ | 4, _ => ⟨C4, _, rfl, ek4, kt_4_2⟩ | 5, _ => ⟨C5, _, rfl, ek5, kt_5_2⟩ | k + 6, hk => absurd hk (by omega), kt3 := fun k hk => match k, hk with | 0, _ => ⟨C0, _, rfl, ek0, kt_0_3⟩ | 1, _ => ⟨C1, _, rfl, ek1, kt_1_3⟩ | 2, _ => ⟨C2, _, rfl, ek2, kt_2_3⟩ | 3, _ => ⟨C3, _, rfl, ek3, kt_3_3⟩ | 4, _ => ⟨C4, _, rfl, ek4, kt_4_3⟩ | 5, _ => ⟨C5, _, rfl, ek5, kt_5_3⟩ | k + 6, hk => absurd hk (by omega), kt4 := fun k hk => match k, hk with | 0, _ => ⟨C0, _, rfl, ek0, kt_0_4⟩ | 1, _ => ⟨C1, _, rfl, ek1, kt_1_4⟩ | 2, _ => ⟨C2, _, rfl, ek2, kt_2_4⟩ | 3, _ => ⟨C3, _, rfl, ek3, kt_3_4⟩ | 4, _ => ⟨C4, _, rfl, ek4, kt_4_4⟩ | 5, _ => ⟨C5, _, rfl, ek5, kt_5_4⟩ | k + 6, hk => absurd hk (by omega), kt5 := fun k hk => match k, hk with | 0, _ => ⟨C0, _, rfl, ek0, kt_0_5⟩ | 1, _ => ⟨C1, _, rfl, ek1, kt_1_5⟩ | 2, _ => ⟨C2, _, rfl, ek2, kt_2_5⟩ | 3, _ => ⟨C3, _, rfl, ek3, kt_3_5⟩ | 4, _ => ⟨C4, _, rfl, ek4, kt_4_5⟩ | 5, _ => ⟨C5, _, rfl, ek5, kt_5_5⟩ | k + 6, hk => absurd hk (by omega), ktW := fun k hk => match k, hk with | 0, _ => ⟨C0, _, rfl, ek0, kt_0_W⟩ | 1, _ => ⟨C1, _, rfl, ek1, kt_1_W⟩ | 2, _ => ⟨C2, _, rfl, ek2, kt_2_W⟩ | 3, _ => ⟨C3, _, rfl, ek3, kt_3_W⟩ | 4, _ => ⟨C4, _, rfl, ek4, kt_4_W⟩ | 5, _ => ⟨C5, _, rfl, ek5, kt_5_W⟩ | k + 6, hk => absurd hk (by omega), ktV := fun k hk => match k, hk with | 0, _ => ⟨C0, _, rfl, ek0, kt_0_V⟩ | 1, _ => ⟨C1, _, rfl, ek1, kt_1_V⟩ | 2, _ => ⟨C2, _, rfl, ek2, kt_2_V⟩ | 3, _ => ⟨C3, _, rfl, ek3, kt_3_V⟩ | 4, _ => ⟨C4, _, rfl, ek4, kt_4_V⟩ | 5, _ => ⟨C5, _, rfl, ek5, kt_5_V⟩ | k + 6, hk => absurd hk (by omega)}
  have Q__law_box : Dn.Cl l.prog w K mg base 1 "_law_box" ["_law_script", "_law_k"] (pr__law_box K) := ⟨f1, _, w__law_box (P := l.prog) (w := w) (base := base) B X6   F1, PySem.W.mg_of X G a1, k1, b1⟩
  have Q__law_take : Dn.Cl l.prog w K mg base 1 "_law_take" ["_law_box_here", "_law_many"] (pr__law_take K) := ⟨f2, _, w__law_take (P := l.prog) (w := w) (base := base) B X6   F2, PySem.W.mg_of X G a2, k2, b2⟩
  have Q__law_caught : Dn.Cl l.prog w K mg base 3 "_law_caught" ["_law_k", "_law_number"] (pr__law_caught K) := ⟨f3, _, w__law_caught (P := l.prog) (w := w) (base := base) B X6   F3, PySem.W.mg_of X G a3, k3, b3⟩
  have Q__law_kinds : Dn.Cl l.prog w K mg base 1 "_law_kinds" ["_law_e"] (pr__law_kinds K) := ⟨f4, _, w__law_kinds (P := l.prog) (w := w) (base := base) B X6   F4, PySem.W.mg_of X G a4, k4, b4⟩
  exact fn_imp (w_law (P := l.prog) (w := w) (base := base) B X6  Q__law_box Q__law_take Q__law_caught Q__law_kinds F5) (pr_imp K _)
theorem walk {l : PySem.W.OpenLaw} {q : Program} {loose : List Str} {XP : (Str → Option Value) → Heap → Prop} {YP : World → Heap → Prop} {d : DefRec} {K : Params → PySem.W.Frag} (hn : l.most = some 63) (hdf : d.params.defaults = [])
    (hY : ∀ (w : World) (h : Heap), YP w h → (K w.params).In h)
    (F : ∀ (w : World) (mg : Str → Option Value) (fa : Addr) (h : Heap), (K w.params).In h → h.Ns mainGlobals mg → mg d.name = some (.ref fa) →
      ∃ fd : FuncData, (∀ (s : Shared) (u : Value), BindsTo s fd ⟨[u], []⟩ [("_law_script", u)]) ∧ ∀ base : Heap, (K w.params).In base → base.Ns mainGlobals mg → FnG l.prog w (K w.params) mg base 4 fa fd ["_law_script"] (pr_law (K w.params))) :
    PySem.W.WalkO q loose XP YP l.row.toRowW d [] (fun f vs => PySem.call f vs) :=
  walk_ofG (n := 63) (k := 4) (x := "_law_script") (sp := fun w => pr_law (K w.params)) hn (by decide) hdf ⟨⟨rfl, by decide, by decide⟩, rfl⟩ hY F (fun w H a ns hl hb _ hS => ⟨ns, (fine ns hl hb).1, by rw [(fine ns hl hb).2]; exact entry hS (fun p m => absurd (show p ∈ ([] : List NdefX.NTab) from m) (by simp))⟩)
end Wk
open PySem PySem.W PyProof.Rows
set_option maxRecDepth 100000 in
set_option maxHeartbeats 0 in
theorem PySem.Challenge.cw_walktold_k03_refusals_holds : PySem.Challenge.rw_walktold_k03_refusals.Holds := by
  w_on; o_law; k_head; (case hw => w_witness2)
  k_fill
  refine Wk.walk (l := PySem.Challenge.rw_walktold_k03_refusals) rfl rfl (fun w h Y => PySem.W.kIn_of Y) ?F
  case F =>
    intro w mg fa h KX G hmg
    refine' Wk.all_mk KX G hmg ?a1 ?l1 ?c1 ?k1 ?a2 ?l2 ?c2 ?k2 ?a3 ?l3 ?c3 ?k3 ?a4 ?l4 ?c4 ?k4 ?a5 ?l5 ?c5 ?k5 ?xW ?xhn ?xht ?xbW ?xdW ?xtW ?xBa ?xBr ?xBi ?n0E ?n0L ?n0sa ?n0eC ?n0tC ?n0kC ?n0ga ?n0gg ?n0ha ?n0hm ?n0hd ?n0sW ?n0no ?n0iC ?n0tI ?n0lI ?n0cI ?n0kI ?n1E ?n1L ?n1sa ?n1eC ?n1tC ?n1kC ?n1ga ?n1gg ?n1ha ?n1hm ?n1hd ?n1sW ?n1no ?n1iC ?n1tI ?n1lI ?n1cI ?n1kI ?n2E ?n2L ?n2sa ?n2eC ?n2tC ?n2kC ?n2ga ?n2gg ?n2ha ?n2hm ?n2hd ?n2sW ?n2no ?n2iC ?n2tI ?n2lI ?n2cI ?n2kI ?n3E ?n3L ?n3sa ?n3eC ?n3tC ?n3kC ?n3ga ?n3gg ?n3ha ?n3hm ?n3hd ?n3sW ?n3no ?n3iC ?n3tI ?n3lI ?n3cI ?n3kI ?n4E ?n4q0 ?n4eC ?n4tC ?n4kC ?n4ga ?n4gg ?n4ha ?n4hm ?n4hd ?n4sW ?n5E ?n5q0 ?n5eC ?n5tC ?n5kC ?n5ga ?n5gg ?n5ha ?n5hm ?n5hd ?n5sW ?kt_0_0 ?kt_0_1 ?kt_0_2 ?kt_0_3 ?kt_0_4 ?kt_0_5 ?kt_0_W ?kt_0_V ?kt_1_0 ?kt_1_1 ?kt_1_2 ?kt_1_3 ?kt_1_4 ?kt_1_5 ?kt_1_W ?kt_1_V ?kt_2_0 ?kt_2_1 ?kt_2_2 ?kt_2_3 ?kt_2_4 ?kt_2_5 ?kt_2_W ?kt_2_V ?kt_3_0 ?kt_3_1 ?kt_3_2 ?kt_3_3 ?kt_3_4 ?kt_3_5 ?kt_3_W ?kt_3_V ?kt_4_0 ?kt_4_1 ?kt_4_2 ?kt_4_3 ?kt_4_4 ?kt_4_5 ?kt_4_W ?kt_4_V ?kt_5_0 ?kt_5_1 ?kt_5_2 ?kt_5_3 ?kt_5_4 ?kt_5_5 ?kt_5_W ?kt_5_V ?z1 ?z2 ?z3 ?z4 ?z5 ?z6 ?z7
    (case a1 => k_is); (case l1 => k_is); (case c1 => k_is); (case k1 => k_is); (case a2 => k_is); (case l2 => k_is); (case c2 => k_is); (case k2 => k_is); (case a3 => k_is); (case l3 => k_is); (case c3 => k_is); (case k3 => k_is); (case a4 => k_is); (case l4 => k_is); (case c4 => k_is); (case k4 => k_is); (case a5 => k_is); (case l5 => k_is); (case c5 => k_is); (case k5 => k_is); (case xW => k_is); (case xhn => k_is); (case xht => k_is); (case xbW => k_is); (case xdW => k_is); (case xtW => k_is); (case xBa => k_is); (case xBr => k_is); (case xBi => k_is); (case n0E => k_is); (case n0L => k_is); (case n0sa => k_is); (case n0eC => k_is); (case n0tC => k_is); (case n0kC => k_is); (case n0ga => k_is); (case n0gg => k_is); (case n0ha => k_is); (case n0hm => k_is); (case n0hd => k_is); (case n0sW => k_is); (case n0no => k_is); (case n0iC => k_is); (case n0tI => k_is); (case n0lI => k_is); (case n0cI => k_is); (case n0kI => k_is); (case n1E => k_is); (case n1L => k_is); (case n1sa => k_is); (case n1eC => k_is); (case n1tC => k_is); (case n1kC => k_is); (case n1ga => k_is); (case n1gg => k_is); (case n1ha => k_is); (case n1hm => k_is); (case n1hd => k_is); (case n1sW => k_is); (case n1no => k_is); (case n1iC => k_is); (case n1tI => k_is); (case n1lI => k_is); (case n1cI => k_is); (case n1kI => k_is); (case n2E => k_is); (case n2L => k_is); (case n2sa => k_is); (case n2eC => k_is); (case n2tC => k_is); (case n2kC => k_is); (case n2ga => k_is); (case n2gg => k_is); (case n2ha => k_is); (case n2hm => k_is); (case n2hd => k_is); (case n2sW => k_is); (case n2no => k_is); (case n2iC => k_is); (case n2tI => k_is); (case n2lI => k_is); (case n2cI => k_is); (case n2kI => k_is); (case n3E => k_is); (case n3L => k_is); (case n3sa => k_is); (case n3eC => k_is); (case n3tC => k_is); (case n3kC => k_is); (case n3ga => k_is); (case n3gg => k_is); (case n3ha => k_is); (case n3hm => k_is); (case n3hd => k_is); (case n3sW => k_is); (case n3no => k_is); (case n3iC => k_is); (case n3tI => k_is); (case n3lI => k_is); (case n3cI => k_is); (case n3kI => k_is); (case n4E => k_is); (case n4q0 => k_exc); (case n4eC => k_is); (case n4tC => k_is); (case n4kC => k_is); (case n4ga => k_is); (case n4gg => k_is); (case n4ha => k_is); (case n4hm => k_is); (case n4hd => k_is); (case n4sW => k_is); (case n5E => k_is); (case n5q0 => k_exc); (case n5eC => k_is); (case n5tC => k_is); (case n5kC => k_is); (case n5ga => k_is); (case n5gg => k_is); (case n5ha => k_is); (case n5hm => k_is); (case n5hd => k_is); (case n5sW => k_is); (case kt_0_0 => kit_is); (case kt_0_1 => kit_is); (case kt_0_2 => kit_is); (case kt_0_3 => kit_is); (case kt_0_4 => kit_is); (case kt_0_5 => kit_is); (case kt_0_W => kit_is); (case kt_0_V => kit_is); (case kt_1_0 => kit_is); (case kt_1_1 => kit_is); (case kt_1_2 => kit_is); (case kt_1_3 => kit_is); (case kt_1_4 => kit_is); (case kt_1_5 => kit_is); (case kt_1_W => kit_is); (case kt_1_V => kit_is); (case kt_2_0 => kit_is); (case kt_2_1 => kit_is); (case kt_2_2 => kit_is); (case kt_2_3 => kit_is); (case kt_2_4 => kit_is); (case kt_2_5 => kit_is); (case kt_2_W => kit_is); (case kt_2_V => kit_is); (case kt_3_0 => kit_is); (case kt_3_1 => kit_is); (case kt_3_2 => kit_is); (case kt_3_3 => kit_is); (case kt_3_4 => kit_is); (case kt_3_5 => kit_is); (case kt_3_W => kit_is); (case kt_3_V => kit_is); (case kt_4_0 => kit_is); (case kt_4_1 => kit_is); (case kt_4_2 => kit_is); (case kt_4_3 => kit_is); (case kt_4_4 => kit_is); (case kt_4_5 => kit_is); (case kt_4_W => kit_is); (case kt_4_V => kit_is); (case kt_5_0 => kit_is); (case kt_5_1 => kit_is); (case kt_5_2 => kit_is); (case kt_5_3 => kit_is); (case kt_5_4 => kit_is); (case kt_5_5 => kit_is); (case kt_5_W => kit_is); (case kt_5_V => kit_is); (case z1 => k_is); (case z2 => k_is); (case z3 => k_is); (case z4 => k_is); (case z5 => k_is); (case z6 => k_is); (case z7 => k_is)
