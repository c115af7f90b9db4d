import PyProof.Rows.All
import HandS.ForMost
import HandS.IsInst
import HandS.TupAny
import HandS.Deep
import HandS.Conv
import KE.KDictKeyed
import KE.DataEq
import KE.DataCmp
import HandS.StrMore
import HandS.Wide
import HandS.TupLen
import HandS.Style
import HandS.ExcOwn
import HandS.ExcCtx
import HandS.CallSlots
import HandS.HotCalls
import KE.GoesEnum
import HandS.Rev
import HandS.Zip
import HandS.Strs
import KE.SortData
import HandS.Defaults
import PyProof.DictDisplay
import KE.KExcSuper
import HandS.ExcInit
import HandS.ExcField
import KE.KExcIs
import HandS.Nested
import HandS.TryMany
import HandS.SetFor
import PyProof.EqKinds
import KE.DataFind
import KE.SortKeyHeap
import HandS.SortKw
import PyProof.DictMoreH
import HandS.ReplaceLit
import HandS.ReplaceList
import PySem.Challenge.RW_hookcheck_k03_paths_are_read
set_option Elab.async false
set_option linter.all false
set_option maxRecDepth 100000
/-! Pv: a small language of values with a store of changing objects; what its functions mean, and that the model does so. -/
namespace L2.Pv
open PySem PySem.Spec PyProof.Rows L2

/-- what is known of the written part, and the world -/
structure Fg where
  K : PySem.W.Frag
  w : World
/-- .. with the classes' names, the exception that is handled -/
structure Fx extends Fg where
  mg : Str → Option Value
  hx : Option (Addr × Value × Option Addr)
instance : Coe Fx Fg := ⟨Fx.toFg⟩
/-- the handled exception: where, its class, its dict -/
def hxo (p : Addr × Obj) : Addr × Value × Option Addr := (p.1, p.2.cls, p.2.dict)
abbrev _root_.L2.Cx.F (X : Cx) : Fx := ⟨⟨X.K, X.w⟩, X.mg, if X.calm = true then none else X.pn.head?.map hxo⟩

/-! ### keys of dicts -/
mutual
def nkOf : PyData → Option NestedKey
  | .none => some .none
  | .bool b => some (.num (if b = true then 1 else 0))
  | .int i => some (.num i)
  | .str x => some (.text x)
  | .tuple ds => (nksOf ds).map .tup
  | .list _ => none
  | .dict _ => none
def nksOf : List PyData → Option (List NestedKey)
  | [] => some []
  | d :: ds => match nkOf d with
    | some k => (nksOf ds).map (k :: ·)
    | none => none
end
def isTupD : PyData → Bool
  | .tuple _ => true
  | _ => false
/-- may be a key: an int, a text, a tuple of such, None, bools (to depth 8) -/
def keyB : PyData → Bool
  | .int _ => true
  | .str _ => true
  | .tuple ds => match nkOf (.tuple ds) with
    | some k => decide (k.depth ≤ 8)
    | none => false
  | _ => false
/-- the same key -/
def keq (a b : PyData) : Bool := decide (nkOf a = nkOf b)
abbrev Kvs := List (PyData × PyData)
def dLook (kds : Kvs) (k : PyData) : Option PyData := (kds.find? fun p => keq p.1 k).map (·.2)
def dPut (kds : Kvs) (k v : PyData) : Kvs := if kds.any (fun p => keq p.1 k) then kds.map (fun p => if keq p.1 k then (p.1, v) else p) else kds ++ [(k, v)]
/-- the key is of the kind of those that are there -/
def kindB (kds : Kvs) (k : PyData) : Bool := keyB k && match kds with
  | [] => true
  | p :: _ => isTupD p.1 == isTupD k
/-- all keys are of one kind, no two are the same -/
structure KvsOk (kds : Kvs) : Prop where
  key : ∀ p ∈ kds, keyB p.1 = true
  kind : (∀ p ∈ kds, isTupD p.1 = true) ∨ ∀ p ∈ kds, isTupD p.1 = false
  nd : (kds.map fun p => nkOf p.1).Nodup
/-- a dict by its entries -/
def dO (a : Addr) (es : List DictEntry) (ep : Nat) : HO := .ext fun h => (a == sysModules) = false ∧ es.length ≤ sizeLine ∧ ∃ o, h.get? a = some o ∧ o.ExactDict ∧ o.data = .dict es.toArray ep

/-! ### values by what they show -/
/-- a tuple, a list that nobody changes: read, not among the addresses m -/
def TupAt (K : Fg) (H : Hp) (m : List Addr) (a : Addr) (xs : List V) : Prop :=
  (Rd H a (.tup xs) ∧ a ∉ m) ∨ ∃ (o : Obj) (its : Array Value) (n : Nat), K.K.lookup a = some o ∧ o.cls = .type "tuple" ∧ o.dict = none ∧ o.data = .seq its n ∧ its.size ≤ sizeLine ∧ Vals xs its.toList
/-- a list that is tracked or locked -/
def LsAt (H : Hp) (m : List Addr) (a : Addr) (xs : List V) : Prop := H a = some (.lst xs) ∧ a ∉ m
def LstAt (K : Fg) (H : Hp) (m : List Addr) (a : Addr) (xs : List V) : Prop :=
  (Rd H a (.lst xs) ∧ a ∉ m) ∨ ∃ (o : Obj) (its : Array Value) (n : Nat), K.K.lookup a = some o ∧ o.cls = .type "list" ∧ o.dict = none ∧ o.data = .seq its n ∧ its.size ≤ sizeLine ∧ Vals xs its.toList
theorem TupAt.sq {K : Fg} {H : Hp} {m : List Addr} {a : Addr} {xs : List V} (h : TupAt K H m a xs) : SqT K.K H a xs := by
  rcases h with ⟨h, _⟩ | ⟨o, its, n, h1, h2, _, h3⟩
  · exact .inl h
  · exact .inr ⟨o, its, n, h1, h2, h3⟩
theorem LsAt.at {K : Fg} {H : Hp} {m : List Addr} {a : Addr} {xs : List V} (h : LsAt H m a xs) : LstAt K H m a xs := .inl ⟨.inl h.1, h.2⟩
theorem LsAt.sq {K : PySem.W.Frag} {H : Hp} {m : List Addr} {a : Addr} {xs : List V} (h : LsAt H m a xs) : SqL K H a xs := .inl (.inl h.1)
theorem LstAt.sq {K : Fg} {H : Hp} {m : List Addr} {a : Addr} {xs : List V} (h : LstAt K H m a xs) : SqL K.K H a xs := by
  rcases h with ⟨h, _⟩ | h
  · exact .inl h
  · exact .inr h

mutual
inductive Rp (K : Fg) (H : Hp) (m : List Addr) : V → PyData → Prop
  | non : Rp K H m .non .none
  | bl (b : Bool) : Rp K H m (.bl b) (.bool b)
  | int (i : Int) : Rp K H m (.int i) (.int i)
  | str (x : Str) (ok : PySem.PyData.strOk x = true) : Rp K H m (.str x) (.str x)
  | lst {a : Addr} {xs : List V} {ds : List PyData} : LsAt H m a xs → RpL K H m xs ds → Rp K H m (.ref a) (.list ds)
  | tup {a : Addr} {xs : List V} {ds : List PyData} : TupAt K H m a xs → RpL K H m xs ds → Rp K H m (.ref a) (.tuple ds)
  | dct {a : Addr} {es : List DictEntry} {ep : Nat} {kds : List (PyData × PyData)} : H a = some (dO a es ep) → a ∉ m → KvsOk kds → RpD K H m es kds → Rp K H m (.ref a) (.dict kds)
inductive RpL (K : Fg) (H : Hp) (m : List Addr) : List V → List PyData → Prop
  | nil : RpL K H m [] []
  | cons {v : V} {vs : List V} {d : PyData} {ds : List PyData} : Rp K H m v d → RpL K H m vs ds → RpL K H m (v :: vs) (d :: ds)
inductive RpD (K : Fg) (H : Hp) (m : List Addr) : List DictEntry → List (PyData × PyData) → Prop
  | nil : RpD K H m [] []
  | cons {e : DictEntry} {es : List DictEntry} {kd vd : PyData} {kds : List (PyData × PyData)} {k : NestedKey} {x v : V} : nkOf kd = some k → e.hash = k.hash K.w → RelV x e.key → Rp K H m x kd → RelV v e.val → Rp K H m v vd → RpD K H m es kds → RpD K H m (e :: es) ((kd, vd) :: kds)
end

section
variable {K : Fg} {H H' : Hp} {m m' : List Addr}
mutual
theorem Rp.dp : ∀ (d : PyData) (v : V), d.plain = true → Rp K H m v d → Dp K.K H v d
  | .none, _, _, h => by cases h; exact .non
  | .bool b, _, _, h => by cases h; exact .bl b
  | .int i, _, _, h => by cases h; exact .int i
  | .str x, _, _, h => by
    cases h with
    | str _ ok => exact .str x
  | .list ds, _, p, h => by
    cases h with
    | lst a b => exact .lst a.sq (RpL.dp ds _ (by simpa [PyData.plain] using p) b)
  | .tuple ds, _, p, h => by
    cases h with
    | tup a b => exact .tup a.sq (RpL.dp ds _ (by simpa [PyData.plain] using p) b)
  | .dict _, _, p, h => nomatch p
theorem RpL.dp : ∀ (ds : List PyData) (vs : List V), PyData.plainAll ds = true → RpL K H m vs ds → DpAll K.K H vs ds
  | [], _, _, h => by cases h; exact .nil
  | d :: ds, _, p, h => by
    have p' : d.plain = true ∧ PyData.plainAll ds = true := by simpa [PyData.plainAll] using p
    cases h with
    | cons a b => exact .cons (Rp.dp d _ p'.1 a) (RpL.dp ds _ p'.2 b)
end
/-- what is needed to carry a showing over -/
structure Cov (m : List Addr) (H : Hp) (m' : List Addr) (H' : Hp) : Prop where
  keep : ∀ a o, H a = some o → a ∉ m → H' a = some o
  out : ∀ a o, H a = some o → a ∉ m → a ∉ m'
theorem TupAt.cov (c : Cov m H m' H') {a : Addr} {xs : List V} (h : TupAt K H m a xs) : TupAt K H' m' a xs := by
  rcases h with ⟨h | ⟨o, h⟩, n⟩ | h
  · exact .inl ⟨.inl (c.keep _ _ h n), c.out _ _ h n⟩
  · exact .inl ⟨.inr ⟨o, c.keep _ _ h n⟩, c.out _ _ h n⟩
  · exact .inr h
theorem LsAt.cov (c : Cov m H m' H') {a : Addr} {xs : List V} (h : LsAt H m a xs) : LsAt H' m' a xs := by
  obtain ⟨h, n⟩ := h
  exact ⟨c.keep _ _ h n, c.out _ _ h n⟩
theorem LstAt.cov (c : Cov m H m' H') {a : Addr} {xs : List V} (h : LstAt K H m a xs) : LstAt K H' m' a xs := by
  rcases h with ⟨h | ⟨o, h⟩, n⟩ | h
  · exact .inl ⟨.inl (c.keep _ _ h n), c.out _ _ h n⟩
  · exact .inl ⟨.inr ⟨o, c.keep _ _ h n⟩, c.out _ _ h n⟩
  · exact .inr h
mutual
theorem Rp.cov (c : Cov m H m' H') : ∀ (d : PyData) (v : V), Rp K H m v d → Rp K H' m' v d
  | .none, _, h => by cases h; exact .non
  | .bool b, _, h => by cases h; exact .bl b
  | .int i, _, h => by cases h; exact .int i
  | .str x, _, h => by
    cases h with
    | str _ ok => exact .str x ok
  | .list ds, _, h => by
    cases h with
    | lst a b => exact .lst (a.cov c) (RpL.cov c ds _ b)
  | .tuple ds, _, h => by
    cases h with
    | tup a b => exact .tup (a.cov c) (RpL.cov c ds _ b)
  | .dict kds, _, h => by
    cases h with
    | dct e n o b => exact .dct (c.keep _ _ e n) (c.out _ _ e n) o (RpD.cov c kds _ b)
theorem RpL.cov (c : Cov m H m' H') : ∀ (ds : List PyData) (vs : List V), RpL K H m vs ds → RpL K H' m' vs ds
  | [], _, h => by cases h; exact .nil
  | d :: ds, _, h => by
    cases h with
    | cons a b => exact .cons (Rp.cov c d _ a) (RpL.cov c ds _ b)
theorem RpD.cov (c : Cov m H m' H') : ∀ (kds : List (PyData × PyData)) (es : List DictEntry), RpD K H m es kds → RpD K H' m' es kds
  | [], _, h => by cases h; exact .nil
  | (kd, vd) :: kds, _, h => by
    cases h with
    | cons a b p q r s t => exact .cons a b p (Rp.cov c kd _ q) r (Rp.cov c vd _ s) (RpD.cov c kds _ t)
end
theorem Cov.refl : Cov m H m H := ⟨fun _ _ h _ => h, fun _ _ _ n => n⟩
theorem Cov.less (s : ∀ a ∈ m', a ∈ m) : Cov m H m' H := ⟨fun _ _ h _ => h, fun a _ _ n z => n (s a z)⟩
/-- from the empty heap: what stands in the written part -/
def HN : Hp := fun _ => none
theorem Cov.base : Cov m HN m' H' := ⟨fun _ _ h _ => absurd h (fun z => by cases z), fun _ _ h _ => absurd h (fun z => by cases z)⟩
mutual
theorem Rp.lay : ∀ (d : PyData) (v : V), d.plain = true → Rp K H m v d → d.canLay0 = true
  | .none, _, _, h => rfl
  | .bool b, _, _, h => rfl
  | .int i, _, _, h => rfl
  | .str x, _, _, h => by
    cases h with
    | str _ ok => exact ok
  | .list ds, _, p, h => by
    cases h with
    | lst a b => exact RpL.lay ds _ (by simpa [PyData.plain] using p) b
  | .tuple ds, _, p, h => by
    cases h with
    | tup a b => exact RpL.lay ds _ (by simpa [PyData.plain] using p) b
  | .dict _, _, p, h => nomatch p
theorem RpL.lay : ∀ (ds : List PyData) (vs : List V), PyData.plainAll ds = true → RpL K H m vs ds → PyData.canLayAll0 ds = true
  | [], _, _, h => rfl
  | d :: ds, _, p, h => by
    have p' : d.plain = true ∧ PyData.plainAll ds = true := by simpa [PyData.plainAll] using p
    cases h with
    | cons a b => show (d.canLay0 && PyData.canLayAll0 ds) = true; rw [Rp.lay d _ p'.1 a, RpL.lay ds _ p'.2 b]; rfl
end
theorem RpL.length : ∀ {ds : List PyData} {vs : List V}, RpL K H m vs ds → vs.length = ds.length
  | [], _, h => by cases h; rfl
  | d :: ds, _, h => by
    cases h with
    | cons a b => show _ + 1 = _ + 1; rw [RpL.length b]
theorem RpL.get : ∀ {ds : List PyData} {vs : List V} {i : Nat} {d : PyData}, RpL K H m vs ds → ds[i]? = some d → ∃ v, vs[i]? = some v ∧ Rp K H m v d
  | [], _, _, _, _, e => by simp at e
  | d :: ds, _, 0, _, h, e => by
    cases h with
    | cons a b =>
      simp at e
      subst e
      exact ⟨_, rfl, a⟩
  | d :: ds, _, i + 1, _, h, e => by
    cases h with
    | cons a b =>
      obtain ⟨v, h1, h2⟩ := RpL.get (i := i) b (by simpa using e)
      exact ⟨v, by simpa using h1, h2⟩
theorem RpL.getV : ∀ {ds : List PyData} {vs : List V} {i : Nat} {v : V}, RpL K H m vs ds → vs[i]? = some v → ∃ d, ds[i]? = some d ∧ Rp K H m v d := fun {ds vs i v} h e => by
  have hl := h.length
  have hi : i < vs.length := (List.getElem?_eq_some_iff.mp e).1
  obtain ⟨v', h1, h2⟩ := h.get (d := ds[i]) (List.getElem?_eq_getElem (by omega))
  rw [e] at h1
  cases h1
  exact ⟨_, List.getElem?_eq_getElem (by omega), h2⟩
theorem RpL.append : ∀ {ds es : List PyData} {vs ws : List V}, RpL K H m vs ds → RpL K H m ws es → RpL K H m (vs ++ ws) (ds ++ es)
  | [], _, _, _, h, q => by cases h; exact q
  | d :: ds, _, _, _, h, q => by
    cases h with
    | cons a b => exact .cons a (RpL.append b q)
theorem RpL.snoc {ds : List PyData} {d : PyData} {vs : List V} {v : V} (h : RpL K H m vs ds) (q : Rp K H m v d) : RpL K H m (vs ++ [v]) (ds ++ [d]) := h.append (.cons q .nil)
theorem RpL.take : ∀ (n : Nat) {ds : List PyData} {vs : List V}, RpL K H m vs ds → RpL K H m (vs.take n) (ds.take n)
  | 0, _, _, _ => .nil
  | n + 1, [], _, h => by cases h; exact .nil
  | n + 1, d :: ds, _, h => by
    cases h with
    | cons a b => exact .cons a (RpL.take n b)
theorem RpL.drop : ∀ (n : Nat) {ds : List PyData} {vs : List V}, RpL K H m vs ds → RpL K H m (vs.drop n) (ds.drop n)
  | 0, _, _, h => h
  | n + 1, [], _, h => by cases h; exact .nil
  | n + 1, d :: ds, _, h => by
    cases h with
    | cons a b => exact RpL.drop n b
theorem RpL.set : ∀ (i : Nat) {ds : List PyData} {vs : List V} {d : PyData} {v : V}, RpL K H m vs ds → Rp K H m v d → RpL K H m (vs.set i v) (ds.set i d)
  | _, [], _, _, _, h, _ => by cases h; exact .nil
  | 0, d :: ds, _, _, _, h, q => by
    cases h with
    | cons a b => exact .cons q b
  | i + 1, d :: ds, _, _, _, h, q => by
    cases h with
    | cons a b => exact .cons a (RpL.set i b q)
theorem RpL.map {α : Type} {f : α → V} {g : α → PyData} (h : ∀ a, Rp K H m (f a) (g a)) : ∀ l : List α, RpL K H m (l.map f) (l.map g)
  | [] => .nil
  | a :: l => .cons (h a) (RpL.map h l)
theorem RpL.reverse : ∀ {ds : List PyData} {vs : List V}, RpL K H m vs ds → RpL K H m vs.reverse ds.reverse
  | [], _, h => by cases h; exact .nil
  | d :: ds, _, h => by
    cases h with
    | cons a b =>
      rw [List.reverse_cons, List.reverse_cons]
      exact (RpL.reverse b).snoc a
end

/-! ### the store of what changes -/
/-- dcl, lsl: a dict, a list whose values are lists of its own -/
inductive Ob where
  | lst (ds : List PyData)
  | dct (kds : Kvs)
  | dcl (kds : Kvs)
  | lsl (ds : List PyData)
  | dead
abbrev Sto := List Ob
/-- the fields of an exception -/
abbrev Fds := List (Str × PyData)
/-- a value at hand: data, or an object of the store by its place, or the exception that is handled -/
inductive Vl where
  | d (x : PyData)
  | o (n : Nat)
  | k (ds : List PyData)
  | x (c : Str) (fs : Fds)
abbrev Env := List (Option Vl)
/-- the addresses of the store's objects, with those of their own lists; what may change -/
structure Pl where
  sl : List (Addr × List Addr)
  m : List Addr
def Pl.ad (ρ : Pl) : List Addr := ρ.sl.map (·.1)
def ownS (l : List (Addr × List Addr)) : List Addr := l.flatMap fun p => p.1 :: p.2
def Pl.own (ρ : Pl) : List Addr := ownS ρ.sl
/-- lists of its own -/
inductive OwL (K : Fg) (H : Hp) (m : List Addr) : List Addr → List PyData → Prop
  | nil : OwL K H m [] []
  | cons {b : Addr} {l : List Addr} {xs : List V} {ds : List PyData} {r : List PyData} : b ∈ m → H b = some (.lst xs) → RpL K H m xs ds → OwL K H m l r → OwL K H m (b :: l) (.list ds :: r)
inductive OwD (K : Fg) (H : Hp) (m : List Addr) : List DictEntry → List Addr → Kvs → Prop
  | nil : OwD K H m [] [] []
  | cons {e : DictEntry} {es : List DictEntry} {b : Addr} {l : List Addr} {xs : List V} {ds : List PyData} {kd : PyData} {kds : Kvs} {k : NestedKey} {x : V} : nkOf kd = some k → e.hash = k.hash K.w → RelV x e.key → Rp K H m x kd → e.val = .ref b → b ∈ m → H b = some (.lst xs) → RpL K H m xs ds → OwD K H m es l kds → OwD K H m (e :: es) (b :: l) ((kd, .list ds) :: kds)
def ObR (K : Fg) (H : Hp) (m : List Addr) (a : Addr) (l : List Addr) : Ob → Prop
  | .lst ds => a ∈ m ∧ ∃ xs, H a = some (.lst xs) ∧ RpL K H m xs ds
  | .dct kds => a ∈ m ∧ ∃ es ep, H a = some (dO a es ep) ∧ KvsOk kds ∧ RpD K H m es kds
  | .dcl kds => a ∈ m ∧ ∃ es ep, H a = some (dO a es ep) ∧ KvsOk kds ∧ OwD K H m es l kds
  | .lsl ds => a ∈ m ∧ H a = some (.lst (l.map V.ref)) ∧ OwL K H m l ds
  | .dead => True
section
variable {K : Fg} {H H' : Hp} {m m' : List Addr}
theorem OwL.cov (c : Cov m H m' H') : ∀ {l : List Addr} {ds : List PyData}, (∀ b ∈ l, H' b = H b) → (∀ b ∈ l, b ∈ m → b ∈ m') → OwL K H m l ds → OwL K H' m' l ds
  | _, _, _, _, .nil => .nil
  | _, _, e, q, .cons h1 h2 h3 h4 => .cons (q _ List.mem_cons_self h1) ((e _ List.mem_cons_self).trans h2) (RpL.cov c _ _ h3) (OwL.cov c (fun b hb => e b (List.mem_cons_of_mem _ hb)) (fun b hb => q b (List.mem_cons_of_mem _ hb)) h4)
theorem OwD.cov (c : Cov m H m' H') : ∀ {es : List DictEntry} {l : List Addr} {kds : Kvs}, (∀ b ∈ l, H' b = H b) → (∀ b ∈ l, b ∈ m → b ∈ m') → OwD K H m es l kds → OwD K H' m' es l kds
  | _, _, _, _, _, .nil => .nil
  | _, _, _, e, q, .cons g1 g2 g3 g4 g5 h1 h2 h3 h4 => .cons g1 g2 g3 (Rp.cov c _ _ g4) g5 (q _ List.mem_cons_self h1) ((e _ List.mem_cons_self).trans h2) (RpL.cov c _ _ h3) (OwD.cov c (fun b hb => e b (List.mem_cons_of_mem _ hb)) (fun b hb => q b (List.mem_cons_of_mem _ hb)) h4)
theorem ObR.cov (c : Cov m H m' H') {a : Addr} {l : List Addr} {o : Ob} (e : ∀ b ∈ a :: l, H' b = H b) (q : ∀ b ∈ a :: l, b ∈ m → b ∈ m') (h : ObR K H m a l o) : ObR K H' m' a l o := by
  have ea := e a List.mem_cons_self
  have qa := q a List.mem_cons_self
  cases o with
  | lst ds =>
    obtain ⟨h0, xs, h1, h2⟩ := h
    exact ⟨qa h0, xs, ea.trans h1, RpL.cov c _ _ h2⟩
  | dct kds =>
    obtain ⟨h0, es, ep, h1, h2, h3⟩ := h
    exact ⟨qa h0, es, ep, ea.trans h1, h2, RpD.cov c _ _ h3⟩
  | dcl kds =>
    obtain ⟨h0, es, ep, h1, h2, h3⟩ := h
    exact ⟨qa h0, es, ep, ea.trans h1, h2, h3.cov c (fun b hb => e b (List.mem_cons_of_mem _ hb)) fun b hb => q b (List.mem_cons_of_mem _ hb)⟩
  | lsl ds =>
    obtain ⟨h0, h1, h2⟩ := h
    exact ⟨qa h0, ea.trans h1, h2.cov c (fun b hb => e b (List.mem_cons_of_mem _ hb)) fun b hb => q b (List.mem_cons_of_mem _ hb)⟩
  | dead => trivial
end
/-- the store S at the addresses ρ -/
structure StR (K : Fg) (ρ : Pl) (S : Sto) (H : Hp) : Prop where
  nd : ρ.own.Nodup
  tk : ∀ a ∈ ρ.m, H a ≠ none
  tka : ∀ a ∈ ρ.own, H a ≠ none
  all : Paired (fun p o => ObR K H ρ.m p.1 p.2 o) ρ.sl S
/-- a later state: the store may have grown at the end -/
structure Ext (ρ : Pl) (H : Hp) (ρ' : Pl) (H' : Hp) : Prop where
  slk : ∀ (n : Nat) (a : Addr) (l : List Addr), ρ.sl[n]? = some (a, l) → ∃ l', ρ'.sl[n]? = some (a, l ++ l')
  ownk : ∀ a ∈ ρ'.own, a ∈ ρ.own ∨ H a = none
  keep : ∀ a o, H a = some o → a ∉ ρ.own ∨ a ∉ ρ.m → H' a = some o
  out : ∀ a o, H a = some o → a ∉ ρ.m → a ∉ ρ'.m
  stay : ∀ a ∈ ρ.m, a ∉ ρ.own → a ∈ ρ'.m ∧ a ∉ ρ'.own
  trk : ∀ a, H a ≠ none → H' a ≠ none
section
variable {K : Fg} {H H' H1 H2 : Hp} {ρ ρ' ρ1 ρ2 : Pl} {S S' : Sto}
theorem pairedGet {α β : Type} {F : α → β → Prop} : ∀ {l : List α} {r : List β} {i : Nat} {a : α}, Paired F l r → l[i]? = some a → ∃ b, r[i]? = some b ∧ F a b
  | _, _, _, _, .nil, e => by simp at e
  | _, _, 0, _, .cons h t, e => by
    simp at e
    subst e
    exact ⟨_, rfl, h⟩
  | _, _, i + 1, _, .cons h t, e => by
    obtain ⟨b, h1, h2⟩ := pairedGet (i := i) t (by simpa using e)
    exact ⟨b, by simpa using h1, h2⟩
theorem pairedGetR {α β : Type} {F : α → β → Prop} : ∀ {l : List α} {r : List β} {i : Nat} {b : β}, Paired F l r → r[i]? = some b → ∃ a, l[i]? = some a ∧ F a b
  | _, _, _, _, .nil, e => by simp at e
  | _, _, 0, _, .cons h t, e => by
    simp at e
    subst e
    exact ⟨_, rfl, h⟩
  | _, _, i + 1, _, .cons h t, e => by
    obtain ⟨b, h1, h2⟩ := pairedGetR (i := i) t (by simpa using e)
    exact ⟨b, by simpa using h1, h2⟩
theorem pairedMem {α β : Type} {F : α → β → Prop} : ∀ {l : List α} {r : List β} {a : α}, Paired F l r → a ∈ l → ∃ b, b ∈ r ∧ F a b
  | _, _, _, .cons h t, hm => by
    rcases List.mem_cons.mp hm with rfl | hm
    · exact ⟨_, List.mem_cons_self, h⟩
    · obtain ⟨b, h1, h2⟩ := pairedMem t hm
      exact ⟨b, List.mem_cons_of_mem _ h1, h2⟩
theorem pairedMono {α β : Type} {F G : α → β → Prop} : ∀ {l : List α} {r : List β}, Paired F l r → (∀ a b, a ∈ l → F a b → G a b) → Paired G l r
  | _, _, .nil, _ => .nil
  | _, _, .cons h t, f => .cons (f _ _ List.mem_cons_self h) (pairedMono t fun a b hm => f a b (List.mem_cons_of_mem _ hm))
theorem pairedAppend {α β : Type} {F : α → β → Prop} : ∀ {l l' : List α} {r r' : List β}, Paired F l r → Paired F l' r' → Paired F (l ++ l') (r ++ r')
  | _, _, _, _, .nil, h => h
  | _, _, _, _, .cons a b, h => .cons a (pairedAppend b h)
theorem pairedTake {α β : Type} {F : α → β → Prop} : ∀ (n : Nat) {l : List α} {r : List β}, Paired F l r → Paired F (l.take n) (r.take n)
  | 0, _, _, _ => .nil
  | n + 1, _, _, .nil => .nil
  | n + 1, _, _, .cons a b => .cons a (pairedTake n b)
theorem pairedSet {α β : Type} {F : α → β → Prop} : ∀ {l : List α} {r : List β} (i : Nat) {b : β}, Paired F l r → (∀ a, l[i]? = some a → F a b) → Paired F l (r.set i b)
  | _, _, _, _, .nil, _ => .nil
  | _, _, 0, _, .cons h t, f => .cons (f _ rfl) t
  | _, _, i + 1, _, .cons h t, f => .cons h (pairedSet i t fun a e => f a (by simpa using e))
theorem pairedSetL {α β : Type} {F : α → β → Prop} : ∀ {l : List α} {r : List β} (i : Nat) {a : α} {b : β}, Paired F l r → F a b → Paired F (l.set i a) (r.set i b)
  | _, _, _, _, _, .nil, _ => .nil
  | _, _, 0, _, _, .cons h t, f => .cons f t
  | _, _, i + 1, _, _, .cons h t, f => .cons h (pairedSetL i t f)
theorem pairedDrop {α β : Type} {F : α → β → Prop} : ∀ (n : Nat) {l : List α} {r : List β}, Paired F l r → Paired F (l.drop n) (r.drop n)
  | 0, _, _, h => h
  | n + 1, _, _, .nil => .nil
  | n + 1, _, _, .cons a b => pairedDrop n b
theorem ad_at {n : Nat} {a : Addr} : ρ.ad[n]? = some a ↔ ∃ l, ρ.sl[n]? = some (a, l) := by
  unfold Pl.ad
  rw [List.getElem?_map]
  constructor
  · intro h
    obtain ⟨p, h1, h2⟩ := Option.map_eq_some_iff.mp h
    exact ⟨p.2, by rw [h1, ← h2]⟩
  · rintro ⟨l, h⟩
    rw [h]
    rfl
theorem own_of {p : Addr × List Addr} {s : List (Addr × List Addr)} {b : Addr} (h : p ∈ s) (hb : b ∈ p.1 :: p.2) : b ∈ ownS s := List.mem_flatMap.mpr ⟨p, h, hb⟩
theorem own_at {n : Nat} {a : Addr} {l : List Addr} (h : ρ.sl[n]? = some (a, l)) {b : Addr} (hb : b ∈ a :: l) : b ∈ ρ.own := own_of (List.mem_of_getElem? h) hb
theorem ad_own {n : Nat} {a : Addr} (h : ρ.ad[n]? = some a) : a ∈ ρ.own := by
  obtain ⟨l, h⟩ := ad_at.mp h
  exact own_at h List.mem_cons_self
theorem ownS_app (s t : List (Addr × List Addr)) : ownS (s ++ t) = ownS s ++ ownS t := List.flatMap_append
/-- what another slot owns is something else -/
theorem own_apart : ∀ {s : List (Addr × List Addr)} {n j : Nat} {p q : Addr × List Addr} {b : Addr}, (ownS s).Nodup → s[n]? = some p → s[j]? = some q → b ∈ p.1 :: p.2 → b ∈ q.1 :: q.2 → n = j
  | [], _, _, _, _, _, _, e, _, _, _ => by simp at e
  | r :: s, n, j, p, q, b, nd, e1, e2, h1, h2 => by
    have nd' : (r.1 :: r.2 ++ ownS s).Nodup := nd
    rw [List.nodup_append] at nd'
    cases n with
    | zero =>
      cases j with
      | zero => rfl
      | succ j =>
        simp at e1
        subst e1
        exact absurd rfl (nd'.2.2 b h1 b (own_of (List.mem_of_getElem? (by simpa using e2)) h2))
    | succ n =>
      cases j with
      | zero =>
        simp at e2
        subst e2
        exact absurd rfl (nd'.2.2 b h2 b (own_of (List.mem_of_getElem? (by simpa using e1)) h1))
      | succ j => exact congrArg (· + 1) (own_apart (n := n) (j := j) (p := p) (q := q) nd'.2.1 (by simpa using e1) (by simpa using e2) h1 h2)
/-- one slot anew -/
theorem pairedPut {F G : Addr × List Addr → Ob → Prop} : ∀ {s : List (Addr × List Addr)} {S : Sto} {n : Nat} {p p' : Addr × List Addr} {o : Ob}, Paired F s S → s[n]? = some p → G p' o → (∀ j q u, s[j]? = some q → j ≠ n → F q u → G q u) → Paired G (s.set n p') (S.set n o)
  | _, _, _, _, _, _, .nil, e, _, _ => by simp at e
  | _, _, 0, _, _, _, .cons h t, e, g, f => .cons g (by
      have key : ∀ {s : List (Addr × List Addr)} {S : Sto}, Paired F s S → (∀ (j : Nat) q u, s[j]? = some q → F q u → G q u) → Paired G s S := by
        intro s S hp
        induction hp with
        | nil => intro _; exact .nil
        | cons a b ih => exact fun k => .cons (k 0 _ _ rfl a) (ih fun j q u e z => k (j + 1) q u (by simpa using e) z)
      exact key t fun j q u e z => f (j + 1) q u (by simpa using e) (Nat.succ_ne_zero _) z)
  | _, _, n + 1, _, _, _, .cons h t, e, g, f => .cons (f 0 _ _ rfl (Ne.symm (Nat.succ_ne_zero _)) h) (pairedPut t (by simpa using e) g fun j q u e hj z => f (j + 1) q u (by simpa using e) (fun y => hj (Nat.succ.inj y)) z)
theorem StR.len (h : StR K ρ S H) : ρ.sl.length = S.length := Paired.length h.all
theorem ad_len : ρ.ad.length = ρ.sl.length := List.length_map _
theorem sl_same {n : Nat} {a : Addr} {l : List Addr} (h : ρ.sl[n]? = some (a, l)) : ∃ l', ρ.sl[n]? = some (a, l ++ l') := ⟨[], by rw [List.append_nil]; exact h⟩
theorem Ext.refl (_ : StR K ρ S H) : Ext ρ H ρ H := ⟨fun _ _ _ h => sl_same h, fun _ h => .inl h, fun _ _ h _ => h, fun _ _ _ h => h, fun _ h n => ⟨h, n⟩, fun _ h => h⟩
theorem Ext.notown (x : Ext ρ H ρ' H') {a : Addr} {o : HO} (e : H a = some o) (n : a ∉ ρ.own) : a ∉ ρ'.own := fun z => by
  rcases x.ownk a z with h | h
  · exact n h
  · rw [h] at e; cases e
theorem Ext.trans (x : Ext ρ H ρ1 H1) (y : Ext ρ1 H1 ρ2 H2) : Ext ρ H ρ2 H2 := by
  refine ⟨fun n a l h => by
    obtain ⟨l1, h1⟩ := x.slk n a l h
    obtain ⟨l2, h2⟩ := y.slk n a _ h1
    exact ⟨l1 ++ l2, by rw [h2, List.append_assoc]⟩, fun a ha => ?_, fun a o e hn => ?_, fun a o e hn => ?_, fun a ha hn => y.stay a (x.stay a ha hn).1 (x.stay a ha hn).2, fun a e => y.trk a (x.trk a e)⟩
  · rcases y.ownk a ha with h | h
    · exact x.ownk a h
    · cases e : H a with
      | none => exact .inr rfl
      | some o => exact absurd h (x.trk a (by rw [e]; exact fun z => nomatch z))
  · refine y.keep a o (x.keep a o e hn) ?_
    rcases hn with hn | hn
    · exact .inl (x.notown e hn)
    · exact .inr (x.out a o e hn)
  · cases e1 : H1 a with
    | none => exact absurd e1 (x.trk a (by rw [e]; exact fun z => nomatch z))
    | some o' => exact y.out a o' e1 (x.out a o e hn)
theorem Ext.cov (x : Ext ρ H ρ' H') : Cov ρ.m H ρ'.m H' := ⟨fun a o e hn => x.keep a o e (.inr hn), x.out⟩
theorem Ext.ad (x : Ext ρ H ρ' H') {n : Nat} {a : Addr} (h : ρ.ad[n]? = some a) : ρ'.ad[n]? = some a := by
  obtain ⟨l, h⟩ := ad_at.mp h
  obtain ⟨l', h'⟩ := x.slk n a l h
  exact ad_at.mpr ⟨_, h'⟩
end

/-- the fields of an exception, shown -/
def FsR (K : Fg) (H : Hp) (m : List Addr) : List (Str × V) → Fds → Prop := Paired fun p q => p.1 = q.1 ∧ Rp K H m p.2 q.2
theorem FsR.cov {K : Fg} {H H' : Hp} {m m' : List Addr} (c : Cov m H m' H') {fs : List (Str × V)} {gs : Fds} (h : FsR K H m fs gs) : FsR K H' m' fs gs := pairedMono h fun _ _ _ q => ⟨q.1, Rp.cov c _ _ q.2⟩
/-- the dict of an exception: none without fields -/
def XdR (K : Fg) (H : Hp) (m : List Addr) (gs : Fds) : Option Addr → Prop
  | none => gs = []
  | some d => d ∉ m ∧ ∃ fs, H d = some (.xd fs) ∧ FsR K H m fs gs
theorem XdR.cov {K : Fg} {H H' : Hp} {m m' : List Addr} (c : Cov m H m' H') {gs : Fds} : ∀ {d : Option Addr}, XdR K H m gs d → XdR K H' m' gs d
  | none, h => h
  | some _, ⟨n, fs, h1, h2⟩ => ⟨c.out _ _ h1 n, fs, c.keep _ _ h1 n, h2.cov c⟩
def Vr (K : Fx) (H : Hp) (ρ : Pl) (x : V) : Vl → Prop
  | .d d => Rp K H ρ.m x d
  | .o n => ∃ a, ρ.ad[n]? = some a ∧ x = .ref a
  | .k ds => ∃ a xs, x = .ref a ∧ LstAt K H ρ.m a xs ∧ RpL K H ρ.m xs ds
  | .x c gs => ∃ p C, K.hx = some p ∧ x = .ref p.1 ∧ K.mg c = some (.ref C) ∧ p.2.1 = .ref C ∧ XdR K H ρ.m gs p.2.2
abbrev VrL (K : Fx) (H : Hp) (ρ : Pl) : List V → List Vl → Prop := Paired (Vr K H ρ)
def EnR (K : Fx) (H : Hp) (ρ : Pl) (σ : St) (Γ : Env) : Prop := Paired (fun (o : Option V) (g : Option Vl) => ∀ v, g = some v → ∃ x, o = some x ∧ Vr K H ρ x v) σ Γ
section
variable {K : Fx} {H H' H1 H2 : Hp} {ρ ρ' ρ1 ρ2 : Pl} {S S' : Sto}
theorem Vr.ext (x : Ext ρ H ρ' H') {v : Vl} {z : V} (h : Vr K H ρ z v) : Vr K H' ρ' z v := by
  cases v with
  | d d => exact Rp.cov x.cov _ _ h
  | o n =>
    obtain ⟨a, h1, h2⟩ := h
    exact ⟨a, x.ad h1, h2⟩
  | k ds =>
    obtain ⟨a, xs, e, h1, h2⟩ := h
    exact ⟨a, xs, e, h1.cov x.cov, RpL.cov x.cov _ _ h2⟩
  | x c gs =>
    obtain ⟨p, C, h1, h2, h3, h4, h5⟩ := h
    exact ⟨p, C, h1, h2, h3, h4, h5.cov x.cov⟩
theorem VrL.ext (x : Ext ρ H ρ' H') {vs : List Vl} {zs : List V} (h : VrL K H ρ zs vs) : VrL K H' ρ' zs vs := pairedMono h fun _ _ _ q => q.ext x
theorem EnR.ext (x : Ext ρ H ρ' H') {Γ : Env} {σ : St} (h : EnR K H ρ σ Γ) : EnR K H' ρ' σ Γ := pairedMono h fun _ _ _ q v e => let ⟨z, h1, h2⟩ := q v e; ⟨z, h1, h2.ext x⟩
theorem EnR.get {Γ : Env} {σ : St} {i : Nat} {v : Vl} (h : EnR K H ρ σ Γ) (e : Γ[i]? = some (some v)) : ∃ x, σ[i]? = some (some x) ∧ Vr K H ρ x v := by
  obtain ⟨o, h1, h2⟩ := pairedGetR h e
  obtain ⟨x, rfl, h3⟩ := h2 v rfl
  exact ⟨x, h1, h3⟩
theorem EnR.set {Γ : Env} {σ : St} {i : Nat} {v : Vl} {x : V} (h : EnR K H ρ σ Γ) (q : Vr K H ρ x v) : EnR K H ρ (σ.set i (some x)) (Γ.set i (some v)) := by
  induction h generalizing i with
  | nil => exact .nil
  | cons a b ih =>
    cases i with
    | zero => exact .cons (fun v' e => by cases e; exact ⟨x, rfl, q⟩) b
    | succ i => exact .cons a ih
theorem EnR.setNone {Γ : Env} {σ : St} {i : Nat} (h : EnR K H ρ σ Γ) : EnR K H ρ (σ.set i none) (Γ.set i none) := by
  induction h generalizing i with
  | nil => exact .nil
  | cons a b ih =>
    cases i with
    | zero => exact .cons (fun v' e => by cases e) b
    | succ i => exact .cons a ih
end
section
variable {K : Fg} {H H' H1 H2 : Hp} {ρ ρ' ρ1 ρ2 : Pl} {S S' : Sto}
/-- an address of the store is written anew -/
theorem StR.put (h : StR K ρ S H) {n : Nat} {a : Addr} {o : HO} {p : Ob} (e : ρ.ad[n]? = some a) (ha : a ∈ ρ.m) (q : ∀ l, ρ.sl[n]? = some (a, l) → (∀ b ∈ l, upd H a o b = H b) → ObR K (upd H a o) ρ.m a l p) :
    StR K ρ (S.set n p) (upd H a o) ∧ Ext ρ H ρ (upd H a o) := by
  obtain ⟨l, el⟩ := ad_at.mp e
  have hc : Cov ρ.m H ρ.m (upd H a o) := ⟨fun b u hb hn => by rw [upd_ne (fun z => hn (by rw [z]; exact ha))]; exact hb, fun _ _ _ n => n⟩
  have htr : ∀ b, H b ≠ none → upd H a o b ≠ none := fun b hb => by
    by_cases z : b = a
    · subst z; rw [upd_same]; exact fun z => by cases z
    · rw [upd_ne z]; exact hb
  have hal : a ∉ l := by
    have nd := h.nd
    have key : ∀ {s : List (Addr × List Addr)} {n : Nat}, (ownS s).Nodup → s[n]? = some (a, l) → a ∉ l := by
      intro s
      induction s with
      | nil => intro n _ e; simp at e
      | cons r s ih =>
        intro n nd e
        have nd' : (r.1 :: r.2 ++ ownS s).Nodup := nd
        rw [List.nodup_append] at nd'
        cases n with
        | zero =>
          simp at e
          subst e
          exact (List.nodup_cons.mp nd'.1).1
        | succ n => exact ih nd'.2.1 (by simpa using e)
    exact key nd el
  refine ⟨⟨h.nd, fun b hb => htr b (h.tk b hb), fun b hb => htr b (h.tka b hb), ?_⟩, ⟨fun _ _ _ h => sl_same h, fun _ h => .inl h, fun b u hb hn => ?_, fun _ _ _ h => h, fun _ h n => ⟨h, n⟩, htr⟩⟩
  · have := pairedPut (G := fun p o' => ObR K (upd H a o) ρ.m p.1 p.2 o') (p' := (a, l)) (o := p) h.all el (q l el fun b hb => upd_ne fun z => hal (z ▸ hb)) fun j r u ej hj z => z.cov hc (fun b hb => upd_ne fun y => hj (own_apart h.nd ej el hb (by rw [y]; exact List.mem_cons_self))) fun b hb y => y
    have es : ρ.sl.set n (a, l) = ρ.sl := by
      apply List.ext_getElem?
      intro i
      by_cases hi : n = i
      · subst hi
        rw [List.getElem?_set_self (List.getElem?_eq_some_iff.mp el).1, el]
      · rw [List.getElem?_set_ne hi]
    rwa [es] at this
  · rw [upd_ne fun z => ?_]
    · exact hb
    · subst z
      rcases hn with hn | hn
      · exact hn (ad_own e)
      · exact hn ha
/-- a new object that is not of the store -/
theorem StR.fresh (h : StR K ρ S H) {p : Addr} {o : HO} (hp : H p = none) : StR K ρ S (upd H p o) ∧ Ext ρ H ρ (upd H p o) := by
  have hc : Cov ρ.m H ρ.m (upd H p o) := ⟨fun b u hb _ => by rw [upd_ne (ne_of_none hb hp)]; exact hb, fun _ _ _ n => n⟩
  have htr : ∀ b, H b ≠ none → upd H p o b ≠ none := fun b hb => by
    by_cases z : b = p
    · subst z; exact absurd hp hb
    · rw [upd_ne z]; exact hb
  refine ⟨⟨h.nd, fun b hb => htr b (h.tk b hb), fun b hb => htr b (h.tka b hb), pairedMono h.all fun r u hr q => q.cov hc (fun b hb => upd_ne fun z => ?_) fun b hb y => y⟩, ⟨fun _ _ _ h => sl_same h, fun _ h => .inl h, fun b u hb _ => by rw [upd_ne (ne_of_none hb hp)]; exact hb, fun _ _ _ h => h, fun _ h n => ⟨h, n⟩, htr⟩⟩
  subst z
  exact h.tka b (own_of hr hb) hp
theorem StR.notin (h : StR K ρ S H) {p : Addr} (hp : H p = none) : p ∉ ρ.m := fun z => h.tk p z hp
theorem StR.notad (h : StR K ρ S H) {p : Addr} (hp : H p = none) : p ∉ ρ.own := fun z => h.tka p z hp
/-- one more object of the store -/
def Pl.more (ρ : Pl) (p : Addr) : Pl := ⟨ρ.sl ++ [(p, [])], ρ.m ++ [p]⟩
theorem Pl.more_own {ρ : Pl} {p : Addr} : (ρ.more p).own = ρ.own ++ [p] := ownS_app _ _
theorem Pl.more_at {ρ : Pl} {p : Addr} : (ρ.more p).ad[ρ.sl.length]? = some p := by
  refine ad_at.mpr ⟨[], ?_⟩
  show (ρ.sl ++ [(p, [])])[ρ.sl.length]? = some (p, [])
  rw [List.getElem?_append_right (Nat.le_refl _), Nat.sub_self]
  rfl
theorem more_cov {p : Addr} {o : HO} (hp : H p = none) : Cov ρ.m H (ρ.more p).m (upd H p o) := ⟨fun b u hb _ => by rw [upd_ne (ne_of_none hb hp)]; exact hb, fun b u hb hn hm => by
  rcases List.mem_append.mp hm with hm | hm
  · exact hn hm
  · rw [List.mem_singleton.mp hm, hp] at hb
    cases hb⟩
theorem ad_app {ρ : Pl} {n : Nat} {a : Addr} {t : List (Addr × List Addr)} {m : List Addr} (h : ρ.ad[n]? = some a) : (Pl.mk (ρ.sl ++ t) m).ad[n]? = some a := by
  obtain ⟨l, h⟩ := ad_at.mp h
  refine ad_at.mpr ⟨l, ?_⟩
  show (ρ.sl ++ t)[n]? = _
  rw [List.getElem?_append_left (List.getElem?_eq_some_iff.mp h).1]
  exact h
theorem sl_app {ρ : Pl} {n : Nat} {a : Addr} {l : List Addr} {t : List (Addr × List Addr)} (h : ρ.sl[n]? = some (a, l)) : ∃ l', (ρ.sl ++ t)[n]? = some (a, l ++ l') := ⟨[], by
  rw [List.getElem?_append_left (List.getElem?_eq_some_iff.mp h).1, List.append_nil]
  exact h⟩
/-- a new object of the store -/
theorem StR.alloc (h : StR K ρ S H) {p : Addr} {o : HO} {u : Ob} (hp : H p = none) (q : ObR K (upd H p o) (ρ.more p).m p [] u) : StR K (ρ.more p) (S ++ [u]) (upd H p o) ∧ Ext ρ H (ρ.more p) (upd H p o) := by
  have hn := h.notin hp
  have hna := h.notad hp
  have htr : ∀ b, H b ≠ none → upd H p o b ≠ none := fun b hb => by
    by_cases z : b = p
    · subst z; exact absurd hp hb
    · rw [upd_ne z]; exact hb
  have htr2 : ∀ l : List Addr, (∀ b ∈ l, H b ≠ none) → ∀ b ∈ l ++ [p], upd H p o b ≠ none := fun l hl b hb => by
    rcases List.mem_append.mp hb with hb | hb
    · exact htr b (hl b hb)
    · rw [List.mem_singleton.mp hb, upd_same]
      exact fun z => nomatch z
  have x : Ext ρ H (ρ.more p) (upd H p o) := by
    refine ⟨fun n a l h => sl_app h, fun a ha => ?_, fun b u hb _ => by rw [upd_ne (ne_of_none hb hp)]; exact hb, (more_cov (o := o) hp).out, fun b hb hbn => ⟨List.mem_append_left _ hb, fun hm => ?_⟩, htr⟩
    · rw [Pl.more_own] at ha
      rcases List.mem_append.mp ha with ha | ha
      · exact .inl ha
      · rw [List.mem_singleton.mp ha]; exact .inr hp
    · rw [Pl.more_own] at hm
      rcases List.mem_append.mp hm with hm | hm
      · exact hbn hm
      · rw [List.mem_singleton.mp hm] at hb
        exact hn hb
  refine ⟨⟨?_, htr2 _ h.tk, ?_, pairedAppend (pairedMono h.all fun r u hr q => q.cov (more_cov hp) (fun b hb => upd_ne fun z => ?_) fun b hb z => List.mem_append_left _ z) (.cons q .nil)⟩, x⟩
  · rw [Pl.more_own, List.nodup_append]
    refine ⟨h.nd, by simp, fun a ha b hb z => ?_⟩
    rw [List.mem_singleton.mp hb] at z
    rw [z] at ha
    exact hna ha
  · rw [Pl.more_own]
    exact htr2 _ h.tka
  · subst z
    exact hna (own_of hr hb)
theorem StR.getL (h : StR K ρ S H) {n : Nat} {a : Addr} {l : List Addr} {o : Ob} (ha : ρ.sl[n]? = some (a, l)) (ho : S[n]? = some o) : ObR K H ρ.m a l o := by
  obtain ⟨b, h1, h2⟩ := pairedGet h.all ha
  rw [ho] at h1
  cases h1
  exact h2
theorem StR.get (h : StR K ρ S H) {n : Nat} {a : Addr} {o : Ob} (ha : ρ.ad[n]? = some a) (ho : S[n]? = some o) : ∃ l, ObR K H ρ.m a l o := by
  obtain ⟨l, hl⟩ := ad_at.mp ha
  exact ⟨l, h.getL hl ho⟩
def Pl.less (ρ : Pl) (a : List Addr) : Pl := ⟨ρ.sl, ρ.m.filter fun b => decide (b ∉ a)⟩
theorem less_mem {a : List Addr} {b : Addr} : b ∈ (ρ.less a).m ↔ b ∈ ρ.m ∧ b ∉ a := by
  show b ∈ ρ.m.filter _ ↔ _
  rw [List.mem_filter]
  simp
theorem less_cov {a : List Addr} : Cov ρ.m H (ρ.less a).m H := Cov.less fun b hb => (less_mem.mp hb).1
/-- an object of the store is data from now on -/
theorem StR.freeze (h : StR K ρ S H) {n : Nat} {a : Addr} {l : List Addr} (ha : ρ.sl[n]? = some (a, l)) : StR K (ρ.less (a :: l)) (S.set n .dead) H ∧ Ext ρ H (ρ.less (a :: l)) H := by
  refine ⟨⟨h.nd, fun b hb => h.tk b (less_mem.mp hb).1, h.tka, ?_⟩, ⟨fun _ _ _ h => sl_same h, fun _ h => .inl h, fun _ _ h _ => h, less_cov.out, fun b hb hn => ⟨less_mem.mpr ⟨hb, fun z => hn (own_at ha z)⟩, hn⟩, fun _ h => h⟩⟩
  have := pairedPut (G := fun p o' => ObR K H (ρ.less (a :: l)).m p.1 p.2 o') (p' := (a, l)) (o := .dead) h.all ha trivial fun j r u ej hj z => z.cov less_cov (fun _ _ => rfl) fun b hb y => less_mem.mpr ⟨y, fun w => hj (own_apart h.nd ej ha hb w)⟩
  have es : ρ.sl.set n (a, l) = ρ.sl := by
    apply List.ext_getElem?
    intro i
    by_cases hi : n = i
    · subst hi
      rw [List.getElem?_set_self (List.getElem?_eq_some_iff.mp ha).1, ha]
    · rw [List.getElem?_set_ne hi]
  rwa [es] at this
theorem tupNew (h : StR K ρ S H) {p : Addr} {xs : List V} {ds : List PyData} (hp : H p = none) (q : RpL K H ρ.m xs ds) : Rp K (upd H p (.tup xs)) ρ.m (.ref p) (.tuple ds) :=
  .tup (.inl ⟨.inl upd_same, h.notin hp⟩) (RpL.cov (h.fresh hp).2.cov _ _ q)
theorem lstNew (h : StR K ρ S H) {p : Addr} {xs : List V} {ds : List PyData} (hp : H p = none) (q : RpL K H ρ.m xs ds) : Rp K (upd H p (.lst xs)) ρ.m (.ref p) (.list ds) :=
  .lst ⟨upd_same, h.notin hp⟩ (RpL.cov (h.fresh hp).2.cov _ _ q)
end
end L2.Pv

set_option Elab.async false
set_option linter.all false
set_option maxRecDepth 100000
namespace L2.Pv
open PySem PySem.Spec PyProof.Rows L2

/-! ### what an operation yields -/
inductive R (α : Type) where
  | ok (a : α) (S : Sto)
  | exc (c : Str) (fs : Fds) (S : Sto)
  | bad
def R.bind {α β : Type} (r : R α) (f : α → Sto → R β) : R β := match r with
  | .ok a S => f a S
  | .exc c fs S => .exc c fs S
  | .bad => .bad
/-- nothing is raised -/
def NoX {α : Type} : R α → Prop
  | .exc _ _ _ => False
  | _ => True
theorem R.bind_ok {α β : Type} {r : R α} {f : α → Sto → R β} {b : β} {S : Sto} (h : r.bind f = .ok b S) : ∃ a S1, r = .ok a S1 ∧ f a S1 = .ok b S := by
  cases r with
  | ok a S1 => exact ⟨a, S1, rfl, h⟩
  | exc c fs S1 => cases h
  | bad => cases h
def lft (S : Sto) : Option PyData → R Vl
  | some c => .ok (.d c) S
  | none => .bad
theorem lft_ok {S S' : Sto} {o : Option PyData} {r : Vl} (h : lft S o = .ok r S') : ∃ c, o = some c ∧ r = .d c ∧ S' = S := by
  cases o with
  | none => cases h
  | some c => cases h; exact ⟨c, rfl, rfl, rfl⟩
theorem nx_lft {S : Sto} {o : Option PyData} : NoX (lft S o) := by cases o <;> trivial
/-- what is wanted behind -/
def Cont (K : Fx) (ρ : Pl) (H : Hp) (S' : Sto) (v : Vl) (Q : VK) : Prop := ∀ ρ' H' x, Ext ρ H ρ' H' → StR K ρ' S' H' → Vr K H' ρ' x v → Q x H'
def ContB (K : Fx) (ρ : Pl) (H : Hp) (S' : Sto) (b : Bool) (Q : Bool → Hp → Prop) : Prop := ∀ ρ' H', Ext ρ H ρ' H' → StR K ρ' S' H' → Q b H'
def ContL (K : Fx) (ρ : Pl) (H : Hp) (S' : Sto) (vs : List Vl) (Q : List V → Hp → Prop) : Prop := ∀ ρ' H' xs, Ext ρ H ρ' H' → StR K ρ' S' H' → VrL K H' ρ' xs vs → Q xs H'
/-- what is wanted of an exception -/
def ContX (K : Fx) (ρ : Pl) (H : Hp) (S' : Sto) (c : Str) (fs : Fds) (E : XK) : Prop := ∀ ρ' H' C d, Ext ρ H ρ' H' → StR K ρ' S' H' → K.mg c = some (.ref C) → XdR K H' ρ'.m fs d → E (.ref C) d H'
/-- what is wanted of a way: of its value (shown as rel tells), of its exception -/
def Pst {α β : Type} (K : Fx) (E : XK) (rel : Hp → Pl → β → α → Prop) (ρ : Pl) (H : Hp) (r : R α) (Q : β → Hp → Prop) : Prop := match r with
  | .ok v S' => ∀ ρ' H' x, Ext ρ H ρ' H' → StR K ρ' S' H' → rel H' ρ' x v → Q x H'
  | .exc c fs S' => ContX K ρ H S' c fs E
  | .bad => False
section
variable {α β γ δ : Type} {K : Fx} {E : XK} {rel : Hp → Pl → β → α → Prop} {rel2 : Hp → Pl → δ → γ → Prop} {ρ ρ1 : Pl} {H H1 : Hp} {r : R α} {f : α → Sto → R γ} {Q1 : β → Hp → Prop} {Q : δ → Hp → Prop}
theorem ContX.mono {S' : Sto} {c : Str} {fs : Fds} (x : Ext ρ H ρ1 H1) (h : ContX K ρ H S' c fs E) : ContX K ρ1 H1 S' c fs E := fun ρ' H' C d x' => h ρ' H' C d (x.trans x')
theorem Pst.mono {r : R γ} (x : Ext ρ H ρ1 H1) (h : Pst K E rel2 ρ H r Q) : Pst K E rel2 ρ1 H1 r Q := by
  cases r with
  | ok v S' => exact fun ρ' H' y x' => h ρ' H' y (x.trans x')
  | exc c fs S' => exact ContX.mono x h
  | bad => exact h
theorem Pst.bind (h : Pst K E rel2 ρ H (r.bind f) Q) (k : ∀ v S1 ρ1 H1 x, r = .ok v S1 → Ext ρ H ρ1 H1 → StR K ρ1 S1 H1 → rel H1 ρ1 x v → Pst K E rel2 ρ1 H1 (f v S1) Q → Q1 x H1) : Pst K E rel ρ H r Q1 := by
  cases r with
  | ok v S1 => exact fun ρ1 H1 x x1 hS1 q1 => k v S1 ρ1 H1 x rfl x1 hS1 q1 (Pst.mono x1 h)
  | exc c fs S1 => exact h
  | bad => exact h
theorem Pst.imp {Q2 : β → Hp → Prop} (h : Pst K E rel ρ H r Q1) (k : ∀ x H', Q1 x H' → Q2 x H') : Pst K E rel ρ H r Q2 := by
  cases r with
  | ok v S1 => exact fun ρ' H' x a b c => k _ _ (h ρ' H' x a b c)
  | exc c fs S1 => exact h
  | bad => exact h
theorem Pst.ok {v : α} {S' : Sto} (h : Pst K E rel ρ H (.ok v S') Q1) : ∀ ρ' H' x, Ext ρ H ρ' H' → StR K ρ' S' H' → rel H' ρ' x v → Q1 x H' := h
theorem Pst.bad {P : Prop} (h : Pst K E rel ρ H .bad Q1) : P := h.elim
/-- nothing is raised: what it is -/
theorem Pst.leaf (h : Pst K E rel ρ H r Q1) (n : NoX r) : ∃ v S', r = .ok v S' ∧ ∀ ρ' H' x, Ext ρ H ρ' H' → StR K ρ' S' H' → rel H' ρ' x v → Q1 x H' := by
  cases r with
  | ok v S1 => exact ⟨v, S1, rfl, h⟩
  | exc c fs S1 => exact n.elim
  | bad => exact h.elim
end
abbrev G2 := Vl → Vl → Sto → R Vl
abbrev G1 := Vl → Sto → R Vl
abbrev GL := List Vl → Sto → R Vl
def NX2 (g : G2) : Prop := ∀ a b S, NoX (g a b S)
def NX1 (g : G1) : Prop := ∀ a S, NoX (g a S)
def NXL (g : GL) : Prop := ∀ vs S, NoX (g vs S)
def NXM (g : Vl → GL) : Prop := ∀ a vs S, NoX (g a vs S)
def rD (K : Fx) (g : G2) : R2 := fun x y H Q => ∃ ρ S va vb r S', StR K ρ S H ∧ Vr K H ρ x va ∧ Vr K H ρ y vb ∧ g va vb S = .ok r S' ∧ Cont K ρ H S' r Q
def rD1 (K : Fx) (g : G1) : V → Hp → VK → Prop := fun x H Q => ∃ ρ S va r S', StR K ρ S H ∧ Vr K H ρ x va ∧ g va S = .ok r S' ∧ Cont K ρ H S' r Q
def rDL (K : Fx) (g : GL) : List V → Hp → VK → Prop := fun xs H Q => ∃ ρ S vs r S', StR K ρ S H ∧ VrL K H ρ xs vs ∧ g vs S = .ok r S' ∧ Cont K ρ H S' r Q
/-- a method: the receiver, the arguments -/
def rDM (K : Fx) (g : Vl → GL) : V → List V → Hp → VK → Prop := fun x xs H Q => ∃ ρ S va vs r S', StR K ρ S H ∧ Vr K H ρ x va ∧ VrL K H ρ xs vs ∧ g va vs S = .ok r S' ∧ Cont K ρ H S' r Q
def rDS (K : Fx) (g : Vl → Option Int → Option Int → Sto → R Vl) : V → Option Int → Option Int → Hp → VK → Prop := fun x lo hi H Q => ∃ ρ S va r S', StR K ρ S H ∧ Vr K H ρ x va ∧ g va lo hi S = .ok r S' ∧ Cont K ρ H S' r Q
def dat2 (h : PyData → PyData → Option PyData) : G2 := fun a b S => match a, b with
  | .d a, .d b => lft S (h a b)
  | _, _ => .bad
theorem nx_dat2 (h : PyData → PyData → Option PyData) : NX2 (dat2 h) := by
  intro a b S
  unfold dat2
  split
  · exact nx_lft
  · trivial
theorem dat2_ok {h : PyData → PyData → Option PyData} {va vb r : Vl} {S S' : Sto} (e : dat2 h va vb S = .ok r S') : ∃ a b c, va = .d a ∧ vb = .d b ∧ h a b = some c ∧ r = .d c ∧ S' = S := by
  unfold dat2 at e
  split at e
  · obtain ⟨c, h1, h2, h3⟩ := lft_ok e
    exact ⟨_, _, c, rfl, rfl, h1, h2, h3⟩
  · cases e
def dat1 (h : PyData → Option PyData) : G1 := fun a S => match a with
  | .d a => lft S (h a)
  | _ => .bad
theorem nx_dat1 (h : PyData → Option PyData) : NX1 (dat1 h) := by
  intro a S
  unfold dat1
  split
  · exact nx_lft
  · trivial
theorem dat1_ok {h : PyData → Option PyData} {va r : Vl} {S S' : Sto} (e : dat1 h va S = .ok r S') : ∃ a c, va = .d a ∧ h a = some c ∧ r = .d c ∧ S' = S := by
  unfold dat1 at e
  split at e
  · obtain ⟨c, h1, h2, h3⟩ := lft_ok e
    exact ⟨_, c, rfl, h1, h2, h3⟩
  · cases e

section
variable {X : Cx} {pins : List (Addr × Obj)} {σ : L2.St} {H : Hp} {s : Shared} {ρ : Pl} {S : Sto} {Q : VK}
/-- nothing has changed -/
theorem Cont.here (h : StR X.F ρ S H) {v : Vl} (c : Cont X.F ρ H S v Q) {x : V} (q : Vr X.F H ρ x v) : Q x H := c ρ H x (Ext.refl h) h q
theorem fin_str (I : Inv X pins σ H s) (h : StR X.F ρ S H) {z : Str} (hz : PySem.PyData.strOk z = true) (c : Cont X.F ρ H S (.d (.str z)) Q) : Q (.str z) H := c.here h (show Rp _ _ _ _ _ from .str z hz)
theorem fin_tup (h : StR X.F ρ S H) {xs : List V} {ds : List PyData} (q : RpL X.F H ρ.m xs ds) (c : Cont X.F ρ H S (.d (.tuple ds)) Q) : ∀ p, H p = none → Q (.ref p) (upd H p (.tup xs)) := fun p hp =>
  c ρ _ _ (h.fresh hp).2 (h.fresh hp).1 (tupNew h hp q)
theorem fin_lst (h : StR X.F ρ S H) {xs : List V} {ds : List PyData} (q : RpL X.F H ρ.m xs ds) (c : Cont X.F ρ H S (.d (.list ds)) Q) : ∀ p, H p = none → Q (.ref p) (upd H p (.lst xs)) := fun p hp =>
  c ρ _ _ (h.fresh hp).2 (h.fresh hp).1 (lstNew h hp q)
end

theorem StR.at {K : Fx} {ρ : Pl} {S : Sto} {H : Hp} (h : StR K ρ S H) {p : Addr} : (ρ.more p).ad[S.length]? = some p := by
  rw [← h.len]
  exact Pl.more_at
theorem Pl.more_mem {ρ : Pl} {p : Addr} : p ∈ (ρ.more p).m := List.mem_append_right _ List.mem_cons_self
/-- a list of the store is made -/
theorem fin_new {K : Fx} {ρ : Pl} {S : Sto} {H : Hp} {Q : VK} (hS : StR K ρ S H) {xs : List V} {ds : List PyData} (q : RpL K H ρ.m xs ds) (hc : Cont K ρ H (S ++ [.lst ds]) (.o S.length) Q) : ∀ p, H p = none → Q (.ref p) (upd H p (.lst xs)) := fun p hp => by
  obtain ⟨h1, h2⟩ := hS.alloc (u := .lst ds) hp ⟨Pl.more_mem, xs, upd_same, RpL.cov (more_cov hp) _ _ q⟩
  exact hc _ _ _ h2 h1 ⟨p, hS.at, rfl⟩
def SZ : Nat := 16777216
theorem SZ_eq : SZ = sizeLine := sizeLine_eq.symm

/-! ### texts stay texts -/
theorem strOk_append {a b : Str} (ha : PySem.PyData.strOk a = true) (hb : PySem.PyData.strOk b = true) : PySem.PyData.strOk (a ++ b) = true := by
  show (a.cps ++ b.cps).all _ = true
  rw [Array.all_append]
  exact Bool.and_eq_true_iff.mpr ⟨ha, hb⟩
theorem strOk_iff {a : Str} : PySem.PyData.strOk a = true ↔ ∀ c ∈ a.cps.toList, c < 0x110000 := by
  unfold PySem.PyData.strOk
  rw [← Array.all_toList, List.all_eq_true]
  exact ⟨fun h c hc => of_decide_eq_true (h c hc), fun h c hc => decide_eq_true (h c hc)⟩
theorem strOk_sub {a b : Str} (ha : PySem.PyData.strOk a = true) (h : ∀ c ∈ b.cps.toList, c ∈ a.cps.toList) : PySem.PyData.strOk b = true := strOk_iff.mpr fun c hc => strOk_iff.mp ha c (h c hc)

/-! ### + - * // % ** -/
def dAdd : PyData → PyData → Option PyData
  | .int i, .int j => some (.int (i + j))
  | .str a, .str b => if a.length + b.length ≤ SZ then some (.str (a ++ b)) else none
  | .tuple a, .tuple b => if a.length + b.length ≤ SZ then some (.tuple (a ++ b)) else none
  | .list a, .list b => if a.length + b.length ≤ SZ then some (.list (a ++ b)) else none
  | _, _ => none
def dSub : PyData → PyData → Option PyData
  | .int i, .int j => some (.int (i - j))
  | _, _ => none
def strRep (x : Str) (n : Int) : Str := ⟨(List.replicate n.toNat x.cps.toList).flatten.toArray⟩
def dMul : PyData → PyData → Option PyData
  | .int i, .int j => if (-(2 ^ 64) < i ∧ i < 2 ^ 64) ∨ (-(2 ^ 64) < j ∧ j < 2 ^ 64) then some (.int (i * j)) else none
  | .str x, .int n => if x.length * n.toNat ≤ SZ ∧ -(2 ^ 63) ≤ n ∧ n < 2 ^ 63 then some (.str (strRep x n)) else none
  | .list x, .int n => if x.length * n.toNat ≤ SZ ∧ -(2 ^ 63) ≤ n ∧ n < 2 ^ 63 then some (.list (List.replicate n.toNat x).flatten) else none
  | _, _ => none
def dFdiv : PyData → PyData → Option PyData
  | .int i, .int j => if 0 < j ∧ j < 18446744073709551616 then some (.int (i / j)) else none
  | _, _ => none
def dMod : PyData → PyData → Option PyData
  | .int i, .int j => if 0 < j then some (.int (i % j)) else none
  | _, _ => none
def dPow : PyData → PyData → Option PyData
  | .int i, .int j => if 0 ≤ j ∧ j ≤ 1000000 ∧ i.natAbs < 2 ^ 64 then some (.int (i ^ j.toNat)) else none
  | _, _ => none

theorem list_add_eq (x : List V) : True := trivial
theorem RpL.rep {K : Fx} {H : Hp} {m : List Addr} {ds : List PyData} {vs : List V} : ∀ n : Nat, RpL K H m vs ds → RpL K H m (List.replicate n vs).flatten (List.replicate n ds).flatten
  | 0, _ => .nil
  | n + 1, h => by
    rw [List.replicate_succ, List.replicate_succ, List.flatten_cons, List.flatten_cons]
    exact h.append (RpL.rep n h)
section
variable {X : Cx}
theorem opd_add : OpR X (binaryOp .Add) (rD X.F (dat2 dAdd)) := by
  intro pins s σ H x y v u Q I rx ry h
  obtain ⟨ρ, S, va, vb, r, S', hS, ha, hb, hg, hc⟩ := h
  obtain ⟨a, b, c, rfl, rfl, hd, rfl, rfl⟩ := dat2_ok hg
  have ha : Rp _ _ _ _ _ := ha
  have hb : Rp _ _ _ _ _ := hb
  unfold dAdd at hd
  split at hd
  · cases hd
    cases ha
    cases hb
    exact op_add pins s σ H _ _ v u Q I rx ry ⟨_, _, rfl, rfl, hc.here hS (show Rp _ _ _ _ _ from .int _)⟩
  · split at hd
    · rename_i hz
      cases hd
      cases ha with
      | str _ oa =>
        cases hb with
        | str _ ob => exact op_add_str pins s σ H _ _ v u Q I rx ry ⟨_, _, rfl, rfl, by rw [← SZ_eq]; exact hz, fin_str I hS (strOk_append oa ob) hc⟩
    · cases hd
  · split at hd
    · rename_i hz
      cases hd
      cases ha with
      | tup ta qa =>
        cases hb with
        | tup tb qb =>
          refine op_catA pins s σ H _ _ v u Q I rx ry ⟨_, _, _, _, rfl, rfl, ta.sq, tb.sq, by rw [qa.length, qb.length, ← SZ_eq]; exact hz, fun e => ?_, fun _ e => ?_, fun _ _ => fin_tup hS (qa.append qb) hc⟩
          · subst e
            cases qa
            exact hc.here hS (show Rp _ _ _ _ _ from .tup tb qb)
          · subst e
            cases qb
            rw [List.append_nil] at hc
            exact hc.here hS (show Rp _ _ _ _ _ from .tup ta qa)
    · cases hd
  · split at hd
    · rename_i hz
      cases hd
      cases ha with
      | lst ta qa =>
        cases hb with
        | lst tb qb => exact op_cat pins s σ H _ _ v u Q I rx ry ⟨_, _, _, _, rfl, rfl, ta.1, tb.1, by rw [qa.length, qb.length, ← SZ_eq]; exact hz, fin_lst hS (qa.append qb) hc⟩
    · cases hd
  · cases hd
theorem opd_sub : OpR X (binaryOp .Sub) (rD X.F (dat2 dSub)) := by
  intro pins s σ H x y v u Q I rx ry h
  obtain ⟨ρ, S, va, vb, r, S', hS, ha, hb, hg, hc⟩ := h
  obtain ⟨a, b, c, rfl, rfl, hd, rfl, rfl⟩ := dat2_ok hg
  have ha : Rp _ _ _ _ _ := ha
  have hb : Rp _ _ _ _ _ := hb
  unfold dSub at hd
  split at hd
  · cases hd
    cases ha
    cases hb
    exact op_sub pins s σ H _ _ v u Q I rx ry ⟨_, _, rfl, rfl, hc.here hS (show Rp _ _ _ _ _ from .int _)⟩
  · cases hd
theorem opd_fdiv : OpR X (binaryOp .FloorDiv) (rD X.F (dat2 dFdiv)) := by
  intro pins s σ H x y v u Q I rx ry h
  obtain ⟨ρ, S, va, vb, r, S', hS, ha, hb, hg, hc⟩ := h
  obtain ⟨a, b, c, rfl, rfl, hd, rfl, rfl⟩ := dat2_ok hg
  have ha : Rp _ _ _ _ _ := ha
  have hb : Rp _ _ _ _ _ := hb
  unfold dFdiv at hd
  split at hd
  · split at hd
    · rename_i hz
      cases hd
      cases ha
      cases hb
      exact op_fdivW pins s σ H _ _ v u Q I rx ry ⟨_, _, rfl, rfl, wide_div (b := 64) hz.1 (by omega) (by decide) (by decide), hc.here hS (show Rp _ _ _ _ _ from .int _)⟩
    · cases hd
  · cases hd
theorem opd_mod : OpR X (binaryOp .Mod) (rD X.F (dat2 dMod)) := by
  intro pins s σ H x y v u Q I rx ry h
  obtain ⟨ρ, S, va, vb, r, S', hS, ha, hb, hg, hc⟩ := h
  obtain ⟨a, b, c, rfl, rfl, hd, rfl, rfl⟩ := dat2_ok hg
  have ha : Rp _ _ _ _ _ := ha
  have hb : Rp _ _ _ _ _ := hb
  unfold dMod at hd
  split at hd
  · split at hd
    · rename_i hz
      cases hd
      cases ha
      cases hb
      exact op_mod pins s σ H _ _ v u Q I rx ry ⟨_, _, rfl, rfl, hz, hc.here hS (show Rp _ _ _ _ _ from .int _)⟩
    · cases hd
  · cases hd
theorem opd_pow : OpR X (binaryOp .Pow) (rD X.F (dat2 dPow)) := by
  intro pins s σ H x y v u Q I rx ry h
  obtain ⟨ρ, S, va, vb, r, S', hS, ha, hb, hg, hc⟩ := h
  obtain ⟨a, b, c, rfl, rfl, hd, rfl, rfl⟩ := dat2_ok hg
  have ha : Rp _ _ _ _ _ := ha
  have hb : Rp _ _ _ _ _ := hb
  unfold dPow at hd
  split at hd
  · split at hd
    · rename_i hz
      cases hd
      cases ha
      cases hb
      exact op_pow pins s σ H _ _ v u Q I rx ry ⟨_, _, rfl, rfl, hz, hc.here hS (show Rp _ _ _ _ _ from .int _)⟩
    · cases hd
  · cases hd
theorem foldl_rep_toList (a : Array Nat) : ∀ (n : Nat) (b : Array Nat), ((List.replicate n a).foldl (· ++ ·) b).toList = b.toList ++ (List.replicate n a.toList).flatten
  | 0, b => by simp
  | n + 1, b => by
    rw [List.replicate_succ, List.foldl_cons, foldl_rep_toList a n (b ++ a), List.replicate_succ, List.flatten_cons, Array.toList_append, List.append_assoc]
theorem strRep_mul (x : Str) (n : Int) : Txt.mul x n = strRep x n := by
  unfold Txt.mul strRep
  by_cases h1 : n < 1
  · rw [if_pos h1, show n.toNat = 0 by omega]
    rfl
  · rw [if_neg h1]
    by_cases h2 : (n == 1 || x.length == 0) = true
    · rw [if_pos h2]
      rcases Bool.or_eq_true_iff.mp h2 with h | h
      · have e : n = 1 := by simpa using h
        subst e
        cases x
        simp
      · have e : x.cps = #[] := by
          have : x.cps.size = 0 := by simpa [Str.length] using h
          exact Array.eq_empty_of_size_eq_zero this
        cases x
        simp only at e
        subst e
        have hr : ∀ m : Nat, (List.replicate m ([] : List Nat)).flatten = [] := fun m => by
          induction m with
          | zero => rfl
          | succ m ih => rw [List.replicate_succ, List.flatten_cons, ih]; rfl
        simp [hr]
    · rw [if_neg h2]
      have := foldl_rep_toList x.cps n.toNat #[]
      congr 1
      apply Array.toList_inj.mp
      simpa using this
theorem strOk_rep {x : Str} {n : Int} (h : PySem.PyData.strOk x = true) : PySem.PyData.strOk (strRep x n) = true := strOk_sub h fun c hc => by
  unfold strRep at hc
  simp only [List.mem_flatten, List.mem_replicate] at hc
  obtain ⟨l, ⟨_, rfl⟩, hc⟩ := hc
  exact hc
theorem mulOk_of {x : Str} {n : Int} (h : x.length * n.toNat ≤ SZ) (h1 : -(2 ^ 63) ≤ n) (h2 : n < 2 ^ 63) : MulOk x n := by
  refine ⟨?_, fun h3 h4 => ?_, fun h3 h4 => ?_⟩
  · rw [Bool.or_eq_false_iff]
    exact ⟨decide_eq_false (by omega), decide_eq_false (by omega)⟩
  · have hn : 0 < n := by omega
    intro h5
    have h6 : ((2 ^ 63 - 1 : Int) / n) * n ≤ 2 ^ 63 - 1 := Int.ediv_mul_le _ (by omega)
    have h7 : (2 ^ 63 - 1 : Int) < ((2 ^ 63 - 1 : Int) / n + 1) * n := Int.lt_ediv_add_one_mul_self _ hn
    have h8 : ((2 ^ 63 - 1 : Int) / n + 1) * n ≤ (x.length : Int) * n := Int.mul_le_mul_of_nonneg_right (by omega) (by omega)
    have h9 : ((x.length * n.toNat : Nat) : Int) = (x.length : Int) * n := by rw [Int.natCast_mul, Int.toNat_of_nonneg (by omega)]
    have h10 : (x.length : Int) * n ≤ 16777216 := by rw [← h9]; exact Int.ofNat_le.mpr h
    omega
  · unfold Builtin.Str.tooLong
    exact decide_eq_false (by rw [← SZ_eq]; omega)
theorem opd_mul : OpR X (binaryOp .Mult) (rD X.F (dat2 dMul)) := by
  intro pins s σ H x y v u Q I rx ry h
  obtain ⟨ρ, S, va, vb, r, S', hS, ha, hb, hg, hc⟩ := h
  obtain ⟨a, b, c, rfl, rfl, hd, rfl, rfl⟩ := dat2_ok hg
  have ha : Rp _ _ _ _ _ := ha
  have hb : Rp _ _ _ _ _ := hb
  unfold dMul at hd
  split at hd
  · split at hd
    · rename_i hz
      cases hd
      cases ha
      cases hb
      exact op_mul pins s σ H _ _ v u Q I rx ry ⟨_, _, rfl, rfl, hz, hc.here hS (show Rp _ _ _ _ _ from .int _)⟩
    · cases hd
  · split at hd
    · rename_i hz
      cases hd
      cases ha with
      | str _ oa =>
        cases hb
        obtain ⟨t, rfl⟩ := rx
        obtain ⟨t', rfl⟩ := ry
        refine PySem.SB.mul (mulOk_of hz.1 hz.2.1 hz.2.2) fun t2 k => ⟨.str _, H, I.tok k, ⟨t2, rfl⟩, ?_⟩
        rw [strRep_mul]
        exact fin_str I hS (strOk_rep oa) hc
    · cases hd
  · split at hd
    · rename_i hz
      cases hd
      cases ha with
      | lst ta qa =>
        cases hb
        exact op_rep pins s σ H _ _ v u Q I rx ry ⟨_, _, _, rfl, rfl, ta.1, hz.2.1, hz.2.2, by rw [qa.length, ← SZ_eq]; exact hz.1, fin_lst hS (RpL.rep _ qa) hc⟩
    · cases hd
  · cases hd
end
end L2.Pv

set_option Elab.async false
set_option linter.all false
set_option maxRecDepth 100000
/-! Pv: dicts by their entries -/
namespace L2.Pv
open PySem PySem.Spec PyProof.Rows L2

/-! ### keys -/
theorem nk_tup {ds : List PyData} : nkOf (.tuple ds) = (nksOf ds).map NestedKey.tup := by simp only [nkOf]
mutual
theorem nk_plain : ∀ (d : PyData) (k : NestedKey), nkOf d = some k → d.plain = true
  | .none, _, _ => rfl
  | .bool _, _, _ => rfl
  | .int _, _, _ => rfl
  | .str _, _, _ => rfl
  | .tuple ds, _, h => by
    rw [nk_tup] at h
    obtain ⟨ks, h1, _⟩ := Option.map_eq_some_iff.mp h
    have := nks_plain ds ks h1
    simpa [PyData.plain] using this
  | .list _, _, h => nomatch h
  | .dict _, _, h => nomatch h
theorem nks_plain : ∀ (ds : List PyData) (ks : List NestedKey), nksOf ds = some ks → PyData.plainAll ds = true
  | [], _, _ => rfl
  | d :: ds, _, h => by
    unfold nksOf at h
    split at h
    · rename_i k e
      obtain ⟨ks, h1, _⟩ := Option.map_eq_some_iff.mp h
      show (d.plain && PyData.plainAll ds) = true
      rw [nk_plain d k e, nks_plain ds ks h1]
      rfl
    · cases h
end
mutual
theorem nk_reads {h : Heap} : ∀ (d : PyData) (k : NestedKey) (v : Value) (as : List Addr), nkOf d = some k → Reads h v d as → NestedIs h k v
  | .none, _, _, _, e, r => by cases e; cases r; exact .none
  | .bool b, _, _, _, e, r => by cases e; cases r; exact .bool rfl
  | .int _, _, _, _, e, r => by cases e; cases r; exact .int _ _
  | .str _, _, _, _, e, r => by cases e; cases r; exact .text _ _
  | .tuple ds, _, _, _, e, r => by
    rw [nk_tup] at e
    obtain ⟨ks, h1, rfl⟩ := Option.map_eq_some_iff.mp e
    cases r with
    | tuple a b c d => exact .tup a b c (nks_reads ds ks _ _ h1 d)
  | .list _, _, _, _, e, _ => nomatch e
  | .dict _, _, _, _, e, _ => nomatch e
theorem nks_reads {h : Heap} : ∀ (ds : List PyData) (ks : List NestedKey) (vs : List Value) (as : List Addr), nksOf ds = some ks → ReadsAll h vs ds as → NestedAll h ks vs
  | [], _, _, _, e, r => by cases e; cases r; exact .nil
  | d :: ds, _, _, _, e, r => by
    unfold nksOf at e
    split at e
    · rename_i k e1
      obtain ⟨ks, h1, rfl⟩ := Option.map_eq_some_iff.mp e
      cases r with
      | cons a b => exact .cons (nk_reads d k _ _ e1 a) (nks_reads ds ks _ _ h1 b)
    · cases e
end
/-- a key that is no tuple -/
def lkOf : PyData → Option Key
  | .int i => some (.inl i)
  | .str x => some (.inr x)
  | _ => none
theorem lk_nk {d : PyData} {k : Key} (h : lkOf d = some k) : ∃ n, nkOf d = some n ∧ (mixKind P w).hash k = n.hash w := by
  cases d <;> cases h
  · exact ⟨_, rfl, rfl⟩
  · exact ⟨_, rfl, rfl⟩
theorem keyB_cases {d : PyData} (h : keyB d = true) : (isTupD d = false ∧ ∃ k, lkOf d = some k) ∨ (isTupD d = true ∧ ∃ k, nkOf d = some k ∧ k.depth ≤ 8) := by
  unfold keyB at h
  split at h
  · exact .inl ⟨rfl, _, rfl⟩
  · exact .inl ⟨rfl, _, rfl⟩
  · refine .inr ⟨rfl, ?_⟩
    split at h
    · rename_i k e
      exact ⟨k, e, of_decide_eq_true h⟩
    · cases h
  · cases h
theorem keyB_nk {d : PyData} (h : keyB d = true) : ∃ k, nkOf d = some k := by
  rcases keyB_cases h with ⟨_, k, e⟩ | ⟨_, k, e, _⟩
  · cases d <;> cases e <;> exact ⟨_, rfl⟩
  · exact ⟨k, e⟩
theorem lk_inj {a b : PyData} {k l : Key} (ha : lkOf a = some k) (hb : lkOf b = some l) : keq a b = decide (k = l) := by
  cases a <;> cases ha <;> cases b <;> cases hb <;> simp [keq, nkOf]
/-- the dict at a -/
def DctAt (K : Fg) (H : Hp) (m : List Addr) (a : Addr) (kds : Kvs) : Prop := KvsOk kds ∧ ∃ es ep, H a = some (dO a es ep) ∧ RpD K H m es kds
theorem RpD.length {K : Fg} {H : Hp} {m : List Addr} : ∀ {kds : Kvs} {es : List DictEntry}, RpD K H m es kds → es.length = kds.length
  | [], _, h => by cases h; rfl
  | _ :: _, _, h => by
    cases h with
    | cons a b p q r s t => show _ + 1 = _ + 1; rw [RpD.length t]

section
variable {X : Cx} {pins : List (Addr × Obj)} {σ : L2.St} {H : Hp} {s : Shared} {m : List Addr} {a : Addr} {kds : Kvs} {kd : PyData} {es : List DictEntry} {ep : Nat} {x : V} {u : Value}
theorem key_nested (I : Inv X pins σ H s) {k : NestedKey} (h : Rp X.F H m x kd) (r : RelV x u) (e : nkOf kd = some k) : NestedIs s.heap k u := by
  obtain ⟨as, q⟩ := Dp.reads I kd x u (Rp.dp kd x (nk_plain kd k e) h) r
  exact nk_reads kd k u as e q
theorem dO_in (I : Inv X pins σ H s) (h : H a = some (dO a es ep)) : (a == sysModules) = false ∧ es.length ≤ sizeLine ∧ ∃ o, s.heap.get? a = some o ∧ o.ExactDict ∧ o.data = .dict es.toArray ep := (I.hok a _ h).1
theorem dO_ok {P : Program} {w : World} {H' : Hp} {h' : Heap} {o : Obj} (h1 : (a == sysModules) = false) (h2 : es.length ≤ sizeLine) (h3 : h'.get? a = some o) (h4 : o.ExactDict) (h5 : o.data = .dict es.toArray ep) : ObjOk P w H' h' a (dO a es ep) :=
  ⟨⟨h1, h2, o, h3, h4, h5⟩, ⟨o, h3⟩, fun g1 g2 ⟨y1, y2, o', y3, y4, y5⟩ k => ⟨y1, y2, o', k o' y3, y4, y5⟩⟩
/-- the entries of a dict of tuples -/
def XR (K : Fg) (H : Hp) (m : List Addr) : Kvs → List (NestedKey × Addr × Value) → Prop :=
  Paired fun (p : PyData × PyData) (q : NestedKey × Addr × Value) => nkOf p.1 = some q.1 ∧ Rp K H m (.ref q.2.1) p.1 ∧ ∃ v, RelV v q.2.2 ∧ Rp K H m v p.2
theorem xr_of : ∀ {kds : Kvs} {es : List DictEntry}, RpD X.F H m es kds → (∀ p ∈ kds, isTupD p.1 = true) → ∃ xs, XR X.F H m kds xs ∧ es = xs.map (entryOfKey (nestedKind X.prog X.w))
  | [], _, h, _ => by cases h; exact ⟨[], .nil, rfl⟩
  | (kd, vd) :: kds, _, h, ht => by
    cases h with
    | @cons e es _ _ _ k x v a1 b p q r s1 t =>
      obtain ⟨xs, h1, h2⟩ := xr_of t fun p hp => ht p (List.mem_cons_of_mem _ hp)
      have h0 : isTupD kd = true := ht _ List.mem_cons_self
      cases kd with
      | tuple ds =>
        cases q with
        | @tup c ys _ ta qa =>
          refine ⟨(k, c, e.val) :: xs, .cons ⟨a1, .tup ta qa, v, r, s1⟩ h1, ?_⟩
          rw [List.map_cons, ← h2]
          congr 1
          have p' : e.key = Value.ref c := p
          cases e
          simp only at p' b
          rw [p', b]
          rfl
      | _ => cases h0
theorem xr_back {K : Fg} {P : Program} : ∀ {kds : Kvs} {xs : List (NestedKey × Addr × Value)}, XR K H m kds xs → RpD K H m (xs.map (entryOfKey (nestedKind P K.w))) kds
  | _, _, .nil => .nil
  | _, _, .cons (b := q) ⟨h1, h2, v, h3, h4⟩ t => .cons (x := .ref q.2.1) h1 rfl rfl h2 h3 h4 (xr_back t)
theorem xr_look {K : Fg} {k : NestedKey} (e : nkOf kd = some k) : ∀ {kds : Kvs} {xs : List (NestedKey × Addr × Value)}, XR K H m kds xs → (dLook kds kd = none ∧ atKey xs k = none) ∨ ∃ vd p v, dLook kds kd = some vd ∧ atKey xs k = some p ∧ RelV v p.2 ∧ Rp K H m v vd
  | _, _, .nil => .inl ⟨rfl, rfl⟩
  | _, _, .cons (a := p) (b := q) ⟨h1, h2, v, h3, h4⟩ t => by
    have hk : keq p.1 kd = decide (q.1 = k) := by
      unfold keq
      rw [h1, e]
      by_cases z : q.1 = k
      · rw [z, decide_eq_true rfl, decide_eq_true rfl]
      · rw [decide_eq_false z, decide_eq_false fun y => z (Option.some.inj y)]
    unfold dLook atKey
    rw [List.find?_cons, List.find?_cons, hk]
    by_cases z : q.1 = k
    · rw [decide_eq_true z]
      exact .inr ⟨p.2, q.2, v, rfl, rfl, h3, h4⟩
    · rw [decide_eq_false z]
      exact xr_look e t
theorem xr_any {K : Fg} {k : NestedKey} (e : nkOf kd = some k) {kds : Kvs} {xs : List (NestedKey × Addr × Value)} (h : XR K H m kds xs) : kds.any (fun p => keq p.1 kd) = (atKey xs k).isSome := by
  have q : ∀ l : Kvs, l.any (fun p => keq p.1 kd) = (dLook l kd).isSome := fun l => by
    induction l with
    | nil => rfl
    | cons p r ih =>
      unfold dLook at ih ⊢
      rw [List.any_cons, List.find?_cons, ih]
      cases keq p.1 kd <;> rfl
  rw [q]
  rcases xr_look e h with ⟨h1, h2⟩ | ⟨vd, p, v, h1, h2, _⟩ <;> rw [h1, h2] <;> rfl
theorem xr_put {K : Fg} {k : NestedKey} {b : Addr} {vd : PyData} {v : V} {w' : Value} (e : nkOf kd = some k) (hb : Rp K H m (.ref b) kd) (rv : RelV v w') (hv : Rp K H m v vd) {kds : Kvs} {xs : List (NestedKey × Addr × Value)} (h : XR K H m kds xs) : XR K H m (dPut kds kd vd) (storedH xs k b w') := by
  have hm : ∀ {kds : Kvs} {xs : List (NestedKey × Addr × Value)}, XR K H m kds xs → XR K H m (kds.map fun p => if keq p.1 kd then (p.1, vd) else p) (xs.map (putAt k w')) := by
    intro kds xs h
    induction h with
    | nil => exact .nil
    | @cons p q ps qs hq t ih =>
      rw [List.map_cons, List.map_cons]
      refine .cons ?_ ih
      obtain ⟨h1, h2, z, h3, h4⟩ := hq
      have hk : keq p.1 kd = decide (q.1 = k) := by
        unfold keq
        rw [h1, e]
        by_cases z : q.1 = k
        · rw [z, decide_eq_true rfl, decide_eq_true rfl]
        · rw [decide_eq_false z, decide_eq_false fun y => z (Option.some.inj y)]
      unfold putAt
      rw [hk]
      by_cases z : q.1 = k
      · rw [decide_eq_true z, if_pos rfl, if_pos z]
        exact ⟨h1, h2, v, rv, hv⟩
      · rw [decide_eq_false z, if_neg Bool.false_ne_true, if_neg z]
        exact ⟨h1, h2, _, h3, h4⟩
  unfold dPut storedH
  rw [xr_any e h]
  split
  · exact hm h
  · exact pairedAppend h (.cons ⟨e, hb, v, rv, hv⟩ .nil)
theorem nodup_of {α β : Type} {f : α → β} : ∀ {l : List α}, (l.map f).Nodup → l.Nodup
  | [], _ => List.nodup_nil
  | a :: l, h => by
    rw [List.map_cons, List.nodup_cons] at h
    exact List.nodup_cons.mpr ⟨fun z => h.1 (List.mem_map.mpr ⟨a, z, rfl⟩), nodup_of h.2⟩
theorem xr_nodup {K : Fg} {kds : Kvs} {xs : List (NestedKey × Addr × Value)} (h : XR K H m kds xs) (n : (kds.map fun p => nkOf p.1).Nodup) : (xs.map (·.1)).Nodup := by
  have e : kds.map (fun p => nkOf p.1) = (xs.map (·.1)).map some := by
    clear n
    induction h with
    | nil => rfl
    | cons hq t ih => rw [List.map_cons, List.map_cons, List.map_cons, hq.1, ih]
  rw [e] at n
  exact nodup_of n
theorem xr_in (I : Inv X pins σ H s) {kds : Kvs} {xs : List (NestedKey × Addr × Value)} (h : XR X.F H m kds xs) (hk : ∀ p ∈ kds, keyB p.1 = true) : ∀ x ∈ xs, (nestedKind X.prog X.w).is s.heap x.1 x.2.1 := by
  induction h with
  | nil => exact fun x hx => nomatch hx
  | @cons p q ps qs hq t ih =>
    intro x hx
    rcases List.mem_cons.mp hx with rfl | hx
    · refine ⟨key_nested I hq.2.1 rfl hq.1, ?_⟩
      rcases keyB_cases (hk p List.mem_cons_self) with ⟨_, k, e⟩ | ⟨_, k, e, hd⟩
      · have h1 : nkOf p.1 = some x.1 := hq.1
        generalize x.1 = y at h1
        revert e h1
        cases p.1 <;> intro e h1 <;> cases e <;> cases h1 <;> exact Nat.zero_le _
      · rw [hq.1] at e
        cases e
        exact hd
    · exact ih (fun p hp => hk p (List.mem_cons_of_mem _ hp)) x hx
theorem dct_H (I : Inv X pins σ H s) (ok : KvsOk kds) (ht : ∀ p ∈ kds, isTupD p.1 = true) (h : H a = some (dO a es ep)) (r : RpD X.F H m es kds) : ∃ xs, XR X.F H m kds xs ∧ s.heap.DictOfH (nestedKind X.prog X.w) a xs ∧ xs.length ≤ sizeLine := by
  obtain ⟨xs, h1, h2⟩ := xr_of (X := X) r ht
  obtain ⟨h3, h4, o, h5, h6, h7⟩ := dO_in I h
  refine ⟨xs, h1, ⟨o, es.toArray, ep, h5, h6, h7, by simpa using h2, xr_in I h1 ok.key, xr_nodup h1 ok.nd⟩, ?_⟩
  rw [h2, List.length_map] at h4
  exact h4
/-- the entries of a dict of ints and texts -/
def LR (K : Fg) (H : Hp) (m : List Addr) : Kvs → List (Key × Value) → Prop :=
  Paired fun (p : PyData × PyData) (q : Key × Value) => lkOf p.1 = some q.1 ∧ Rp K H m (kV q.1) p.1 ∧ ∃ v, RelV v q.2 ∧ Rp K H m v p.2
theorem lr_of : ∀ {kds : Kvs} {es : List DictEntry}, RpD X.F H m es kds → (∀ p ∈ kds, ∃ k, lkOf p.1 = some k) → ∃ vs, LR X.F H m kds vs ∧ Pairs (mixKind X.prog X.w) es vs ∧ ∀ e ∈ es, ∃ k, (mixKind X.prog X.w).is k e.key = true ∧ e.hash = (mixKind X.prog X.w).hash k
  | [], _, h, _ => by cases h; exact ⟨[], .nil, .nil, fun e he => nomatch he⟩
  | (kd, vd) :: kds, _, h, ht => by
    cases h with
    | @cons e es _ _ _ k x v a1 b p q r s1 t =>
      obtain ⟨vs, h1, h2, h3⟩ := lr_of t fun p hp => ht p (List.mem_cons_of_mem _ hp)
      obtain ⟨l, hl⟩ := ht _ List.mem_cons_self
      have hx : x = kV l := by
        cases kd <;> cases hl <;> cases q <;> rfl
      subst hx
      have his := kV_is (P := X.prog) (w := X.w) p
      obtain ⟨n, e1, e2⟩ := lk_nk (P := X.prog) (w := X.w) hl
      rw [a1] at e1
      cases e1
      refine ⟨(l, e.val) :: vs, .cons ⟨hl, q, v, r, s1⟩ h1, .cons his rfl h2, fun e' he => ?_⟩
      rcases List.mem_cons.mp he with rfl | he
      · exact ⟨l, his, b.trans e2.symm⟩
      · exact h3 e' he
theorem relV_kV {P : Program} {w : World} {k : Key} {u : Value} (h : (mixKind P w).is k u = true) : RelV (kV k) u := by
  rcases keyIs_shape (show keyIs k u = true from h) with ⟨i, t, rfl, rfl⟩ | ⟨y, t, rfl, rfl⟩
  · exact ⟨t, rfl⟩
  · exact ⟨t, rfl⟩
theorem lr_back {K : Fg} {P : Program} : ∀ {kds : Kvs} {vs : List (Key × Value)} {es : List DictEntry}, LR K H m kds vs → Pairs (mixKind P K.w) es vs → (∀ e ∈ es, ∃ k, (mixKind P K.w).is k e.key = true ∧ e.hash = (mixKind P K.w).hash k) → RpD K H m es kds
  | _, _, _, .nil, h, _ => by cases h; exact .nil
  | _, _, _, .cons ⟨h1, h2, v, h3, h4⟩ t, h, hk => by
    cases h with
    | cons p1 p2 p3 =>
      obtain ⟨n, e1, e2⟩ := lk_nk (P := P) (w := K.w) h1
      obtain ⟨k, k1, k2⟩ := hk _ List.mem_cons_self
      have e : k = _ := (mixKind P K.w).inj _ _ _ k1 p1
      subst e
      exact .cons e1 (k2.trans e2) (relV_kV p1) h2 (by rw [p2]; exact h3) h4 (lr_back t p3 fun e he => hk e (List.mem_cons_of_mem _ he))
theorem lr_look {K : Fg} {k : Key} (e : lkOf kd = some k) : ∀ {kds : Kvs} {vs : List (Key × Value)}, LR K H m kds vs → (dLook kds kd = none ∧ valueAt vs k = none) ∨ ∃ vd w' v, dLook kds kd = some vd ∧ valueAt vs k = some w' ∧ RelV v w' ∧ Rp K H m v vd
  | _, _, .nil => .inl ⟨rfl, rfl⟩
  | _, _, .cons (a := p) (b := q) ⟨h1, h2, v, h3, h4⟩ t => by
    have hk := lk_inj h1 e
    unfold dLook valueAt
    rw [List.find?_cons, List.find?_cons, hk]
    by_cases z : q.1 = k
    · rw [decide_eq_true z]
      exact .inr ⟨p.2, q.2, v, rfl, rfl, h3, h4⟩
    · rw [decide_eq_false z]
      exact lr_look e t
theorem lr_put {K : Fg} {k : Key} {vd : PyData} {v : V} {w' : Value} (e : lkOf kd = some k) (hb : Rp K H m (kV k) kd) (rv : RelV v w') (hv : Rp K H m v vd) {kds : Kvs} {vs : List (Key × Value)} (h : LR K H m kds vs) : LR K H m (dPut kds kd vd) (stored vs k w') := by
  unfold dPut stored
  have ha : kds.any (fun p => keq p.1 kd) = vs.any fun kv => decide (kv.1 = k) := by
    induction h with
    | nil => rfl
    | cons hq t ih => rw [List.any_cons, List.any_cons, ih, lk_inj hq.1 e]
  rw [ha]
  have hm : ∀ {kds : Kvs} {vs : List (Key × Value)}, LR K H m kds vs → LR K H m (kds.map fun p => if keq p.1 kd then (p.1, vd) else p) (vs.map fun kv => if kv.1 = k then (kv.1, w') else kv) := by
    intro kds vs h
    induction h with
    | nil => exact .nil
    | @cons p q ps qs hq t ih =>
      rw [List.map_cons, List.map_cons]
      refine .cons ?_ ih
      obtain ⟨h1, h2, z, h3, h4⟩ := hq
      rw [lk_inj h1 e]
      by_cases z : q.1 = k
      · rw [decide_eq_true z, if_pos rfl, if_pos z]
        exact ⟨h1, h2, v, rv, hv⟩
      · rw [decide_eq_false z, if_neg Bool.false_ne_true, if_neg z]
        exact ⟨h1, h2, _, h3, h4⟩
  split
  · exact hm h
  · exact pairedAppend h (.cons ⟨e, hb, v, rv, hv⟩ .nil)
theorem lr_nodup {K : Fg} {kds : Kvs} {vs : List (Key × Value)} (h : LR K H m kds vs) (n : (kds.map fun p => nkOf p.1).Nodup) : (vs.map (·.1)).Nodup := by
  let f : Key → Option NestedKey := fun k => match k with | .inl i => some (.num i) | .inr x => some (.text x)
  have e : kds.map (fun p => nkOf p.1) = (vs.map (·.1)).map f := by
    clear n
    induction h with
    | nil => rfl
    | @cons p q ps qs hq t ih =>
      rw [List.map_cons, List.map_cons, List.map_cons, ih]
      congr 1
      have h1 : lkOf p.1 = some q.1 := hq.1
      generalize q.1 = y at h1 ⊢
      revert h1
      cases p.1 <;> intro h1 <;> cases h1 <;> rfl
  rw [e] at n
  exact nodup_of n
theorem dct_L (I : Inv X pins σ H s) (ok : KvsOk kds) (ht : ∀ p ∈ kds, isTupD p.1 = false) (h : H a = some (dO a es ep)) (r : RpD X.F H m es kds) : ∃ vs, LR X.F H m kds vs ∧ s.heap.DictOf (mixKind X.prog X.w) a vs ∧ vs.length ≤ sizeLine := by
  have hl : ∀ p ∈ kds, ∃ k, lkOf p.1 = some k := fun p hp => by
    rcases keyB_cases (ok.key p hp) with ⟨_, k, e⟩ | ⟨h1, _⟩
    · exact ⟨k, e⟩
    · rw [ht p hp] at h1
      cases h1
  obtain ⟨vs, h1, h2, h3⟩ := lr_of (X := X) r hl
  obtain ⟨h4, h5, o, h6, h7, h8⟩ := dO_in I h
  refine ⟨vs, h1, ⟨o, es.toArray, ep, h6, h7, h8, fun e he => h3 e (by simpa using he), by simpa using h2, lr_nodup h1 ok.nd⟩, ?_⟩
  rw [← h2.length]
  exact h5
theorem kind_of (ok : KvsOk kds) (h : kindB kds kd = true) : keyB kd = true ∧ ((isTupD kd = true ∧ ∀ p ∈ kds, isTupD p.1 = true) ∨ (isTupD kd = false ∧ ∀ p ∈ kds, isTupD p.1 = false)) := by
  unfold kindB at h
  rw [Bool.and_eq_true] at h
  refine ⟨h.1, ?_⟩
  cases kds with
  | nil =>
    cases e : isTupD kd with
    | true => exact .inl ⟨rfl, fun p hp => nomatch hp⟩
    | false => exact .inr ⟨rfl, fun p hp => nomatch hp⟩
  | cons p r =>
    have h2 : isTupD p.1 = isTupD kd := by simpa using h.2
    rcases ok.kind with q | q
    · exact .inl ⟨h2.symm.trans (q p List.mem_cons_self), q⟩
    · exact .inr ⟨h2.symm.trans (q p List.mem_cons_self), q⟩
theorem tup_key (I : Inv X pins σ H s) (ht : isTupD kd = true) (hk : keyB kd = true) (hx : Rp X.F H m x kd) (rx : RelV x u) : ∃ b k, x = .ref b ∧ u = .ref b ∧ nkOf kd = some k ∧ (nestedKind X.prog X.w).is s.heap k b := by
  rcases keyB_cases hk with ⟨h, _⟩ | ⟨_, k, e, hd⟩
  · rw [ht] at h; cases h
  · cases kd with
    | tuple ds =>
      cases hx with
      | @tup b ys _ ta qa =>
        obtain rfl : u = .ref b := rx
        exact ⟨b, k, rfl, rfl, e, key_nested I (.tup ta qa) rfl e, hd⟩
    | _ => cases ht
theorem lf_key (ht : isTupD kd = false) (hk : keyB kd = true) (hx : Rp X.F H m x kd) (rx : RelV x u) : ∃ k, x = kV k ∧ lkOf kd = some k ∧ (mixKind X.prog X.w).is k u = true := by
  rcases keyB_cases hk with ⟨_, k, e⟩ | ⟨h, _⟩
  · have hx' : x = kV k := by
      cases kd <;> cases e <;> cases hx <;> rfl
    subst hx'
    exact ⟨k, rfl, e, kV_is rx⟩
  · rw [ht] at h; cases h
theorem put_ok (ok : KvsOk kds) (hk : kindB kds kd = true) {vd : PyData} : KvsOk (dPut kds kd vd) := by
  obtain ⟨h1, h2⟩ := kind_of ok hk
  have hm : (kds.map fun p => if keq p.1 kd then (p.1, vd) else p).map (·.1) = kds.map (·.1) := by
    rw [List.map_map]
    refine List.map_congr_left fun p _ => ?_
    show (if keq p.1 kd = true then (p.1, vd) else p).1 = p.1
    split <;> rfl
  have hmn : (kds.map fun p => if keq p.1 kd then (p.1, vd) else p).map (fun p => nkOf p.1) = kds.map fun p => nkOf p.1 := by
    have := congrArg (List.map nkOf) hm
    simpa [List.map_map, Function.comp_def] using this
  have hmem : ∀ p ∈ (kds.map fun p => if keq p.1 kd then (p.1, vd) else p), ∃ q ∈ kds, q.1 = p.1 := fun p hp => by
    obtain ⟨q, hq, rfl⟩ := List.mem_map.mp hp
    exact ⟨q, hq, by split <;> rfl⟩
  unfold dPut
  split
  · refine ⟨fun p hp => ?_, ?_, by rw [hmn]; exact ok.nd⟩
    · obtain ⟨q, hq, e⟩ := hmem p hp
      rw [← e]; exact ok.key q hq
    · rcases ok.kind with k | k
      · exact .inl fun p hp => let ⟨q, hq, e⟩ := hmem p hp; by rw [← e]; exact k q hq
      · exact .inr fun p hp => let ⟨q, hq, e⟩ := hmem p hp; by rw [← e]; exact k q hq
  · rename_i hn
    refine ⟨fun p hp => ?_, ?_, ?_⟩
    · rcases List.mem_append.mp hp with hp | hp
      · exact ok.key p hp
      · rw [List.mem_singleton.mp hp]; exact h1
    · rcases h2 with ⟨e, k⟩ | ⟨e, k⟩
      · refine .inl fun p hp => ?_
        rcases List.mem_append.mp hp with hp | hp
        · exact k p hp
        · rw [List.mem_singleton.mp hp]; exact e
      · refine .inr fun p hp => ?_
        rcases List.mem_append.mp hp with hp | hp
        · exact k p hp
        · rw [List.mem_singleton.mp hp]; exact e
    · rw [List.map_append, List.nodup_append]
      refine ⟨ok.nd, by simp, fun a ha b hb e => ?_⟩
      obtain ⟨q, hq, rfl⟩ := List.mem_map.mp ha
      have hb' : b = nkOf kd := by simpa using hb
      refine hn ?_
      rw [List.any_eq_true]
      refine ⟨q, hq, ?_⟩
      unfold keq
      rw [e, hb', decide_eq_true rfl]
theorem put_len {kds : Kvs} {vd : PyData} : (dPut kds kd vd).length ≤ kds.length + 1 := by
  unfold dPut
  split <;> simp

section
variable {A : Around} {E : Value → Shared → Prop}
theorem DctAt.typeIs (I : Inv X pins σ H s) (D : DctAt X.F H m a kds) : s.TypeIs (.ref a) "dict" ∧ (∀ b, Value.ref a = .ref b → ∃ ob, s.heap.get? b = some ob ∧ ob.dict = none) ∧ (a == sysModules) = false := by
  obtain ⟨_, es, ep, h, _⟩ := D
  obtain ⟨h1, h2, o, h3, h4, h5⟩ := dO_in I h
  exact ⟨⟨o, h3, h4.1⟩, fun b e => by cases e; exact ⟨o, h3, h4.2.1⟩, h1⟩
/-- d[k] -/
theorem dd_getItem {Q : Value → Shared → Prop} {vd : PyData} (hu : A.units + 64 < cLine) (I : Inv X pins σ H s) (D : DctAt X.F H m a kds) (hk : kindB kds kd = true) (hx : Rp X.F H m x kd) (rx : RelV x u) (hl : dLook kds kd = some vd)
    (h : ∀ w' s' v, Inv X pins σ H s' → RelV v w' → Rp X.F H m v vd → Q w' s') : wpAny (model X.prog X.w) A (getItem (.ref a) u) Q E s := by
  obtain ⟨ok, es, ep, ha, hr⟩ := D
  obtain ⟨k1, k2⟩ := kind_of ok hk
  rcases k2 with ⟨e, k2⟩ | ⟨e, k2⟩
  · obtain ⟨b, k, rfl, rfl, e2, his⟩ := tup_key I e k1 hx rx
    obtain ⟨xs, h1, h2, h3⟩ := dct_H I ok k2 ha hr
    rcases xr_look e2 h1 with ⟨h4, _⟩ | ⟨vd', p, v, h4, h5, h6, h7⟩
    · rw [hl] at h4; cases h4
    · rw [hl] at h4; cases h4
      exact wpAny_getItem_heap (by show A.in1.units + 8 < cLine; rw [Around.in1_units]; omega) his h2 h5 (h _ _ v (I.tok _) h6 h7)
  · obtain ⟨k, rfl, e2, his⟩ := lf_key e k1 hx rx
    obtain ⟨vs, h1, h2, h3⟩ := dct_L I ok k2 ha hr
    rcases lr_look e2 h1 with ⟨h4, _⟩ | ⟨vd', w', v, h4, h5, h6, h7⟩
    · rw [hl] at h4; cases h4
    · rw [hl] at h4; cases h4
      exact wpAny_getItem_of his h2.mapOf h5 (h _ _ v (I.tok _) h6 h7)
/-- k in d, k not in d -/
theorem dd_in {Q : Value → Shared → Prop} (hu : A.units + 64 < cLine) (I : Inv X pins σ H s) (D : DctAt X.F H m a kds) (hk : kindB kds kd = true) (hx : Rp X.F H m x kd) (rx : RelV x u)
    (h : ∀ s', Inv X pins σ H s' → Q (.bool (dLook kds kd).isSome) s') : wpAny (model X.prog X.w) A (compareOp .In u (.ref a)) Q E s := by
  have hd := (D.typeIs I).2.2
  obtain ⟨ok, es, ep, ha, hr⟩ := D
  obtain ⟨k1, k2⟩ := kind_of ok hk
  rcases k2 with ⟨e, k2⟩ | ⟨e, k2⟩
  · obtain ⟨b, k, rfl, rfl, e2, his⟩ := tup_key I e k1 hx rx
    obtain ⟨xs, h1, h2, h3⟩ := dct_H I ok k2 ha hr
    refine wpAny_in_heap (by show A.in1.units + 8 < cLine; rw [Around.in1_units]; omega) his hd h2 ?_
    rcases xr_look e2 h1 with ⟨h4, h5⟩ | ⟨vd', p, v, h4, h5, _⟩ <;> (rw [h5]; rw [h4] at h; exact h _ (I.tok _))
  · obtain ⟨k, rfl, e2, his⟩ := lf_key e k1 hx rx
    obtain ⟨vs, h1, h2, h3⟩ := dct_L I ok k2 ha hr
    refine wpAny_in_of his hd h2.mapOf ?_
    rcases lr_look e2 h1 with ⟨h4, h5⟩ | ⟨vd', p, v, h4, h5, _⟩ <;> (rw [h5]; rw [h4] at h; exact h _ (I.tok _))
theorem dd_notIn {Q : Value → Shared → Prop} (hu : A.units + 64 < cLine) (I : Inv X pins σ H s) (D : DctAt X.F H m a kds) (hk : kindB kds kd = true) (hx : Rp X.F H m x kd) (rx : RelV x u)
    (h : ∀ s', Inv X pins σ H s' → Q (.bool (!(dLook kds kd).isSome)) s') : wpAny (model X.prog X.w) A (compareOp .NotIn u (.ref a)) Q E s := by
  have hd := (D.typeIs I).2.2
  obtain ⟨ok, es, ep, ha, hr⟩ := D
  obtain ⟨k1, k2⟩ := kind_of ok hk
  rcases k2 with ⟨e, k2⟩ | ⟨e, k2⟩
  · obtain ⟨b, k, rfl, rfl, e2, his⟩ := tup_key I e k1 hx rx
    obtain ⟨xs, h1, h2, h3⟩ := dct_H I ok k2 ha hr
    refine wpAny_notIn_heap (by show A.in1.units + 8 < cLine; rw [Around.in1_units]; omega) his hd h2 ?_
    rcases xr_look e2 h1 with ⟨h4, h5⟩ | ⟨vd', p, v, h4, h5, _⟩ <;> (rw [h5]; rw [h4] at h; exact h _ (I.tok _))
  · obtain ⟨k, rfl, e2, his⟩ := lf_key e k1 hx rx
    obtain ⟨vs, h1, h2, h3⟩ := dct_L I ok k2 ha hr
    refine wpAny_notIn_of his hd h2.mapOf ?_
    rcases lr_look e2 h1 with ⟨h4, h5⟩ | ⟨vd', p, v, h4, h5, _⟩ <;> (rw [h5]; rw [h4] at h; exact h _ (I.tok _))
/-- d.get(k), d.get(k, y) -/
theorem dd_get1 {Q : Value → Shared → Prop} (hu : A.units + 64 < cLine) (I : Inv X pins σ H s) (D : DctAt X.F H m a kds) (hk : kindB kds kd = true) (hx : Rp X.F H m x kd) (rx : RelV x u)
    (h : ∀ w' s' v, Inv X pins σ H s' → RelV v w' → Rp X.F H m v ((dLook kds kd).getD .none) → Q w' s') : wpAny (model X.prog X.w) A (call (.builtin "dict.get") [.ref a, u]) Q E s := by
  have hd := (D.typeIs I).2.2
  obtain ⟨ok, es, ep, ha, hr⟩ := D
  obtain ⟨k1, k2⟩ := kind_of ok hk
  rcases k2 with ⟨e, k2⟩ | ⟨e, k2⟩
  · obtain ⟨b, k, rfl, rfl, e2, his⟩ := tup_key I e k1 hx rx
    obtain ⟨xs, h1, h2, h3⟩ := dct_H I ok k2 ha hr
    refine call_meetsIn PySem.F.slot_dict_get h2.typeIs PySem.F.entry_dict_get (PySem.F.args_dict_get_2 _ _) (meetsH_dict_get (nestedKind X.prog X.w) a b hd) ⟨by show A.in1.units + 8 < cLine; rw [Around.in1_units]; omega, k, xs, his, h2, ?_⟩
    rcases xr_look e2 h1 with ⟨h4, h5⟩ | ⟨vd', p, v, h4, h5, h6, h7⟩
    · rw [h5]; rw [h4] at h; exact h _ _ .non (I.tok _) rfl .non
    · rw [h5]; rw [h4] at h; exact h _ _ v (I.tok _) h6 h7
  · obtain ⟨k, rfl, e2, his⟩ := lf_key e k1 hx rx
    obtain ⟨vs, h1, h2, h3⟩ := dct_L I ok k2 ha hr
    refine call_meetsIn PySem.F.slot_dict_get h2.typeIs PySem.F.entry_dict_get (PySem.F.args_dict_get_2 _ _) (meets_dict_get (mixKind X.prog X.w) a his hd) ⟨_, h2.mapOf, ?_⟩
    rcases lr_look e2 h1 with ⟨h4, h5⟩ | ⟨vd', p, v, h4, h5, h6, h7⟩
    · rw [h5]; rw [h4] at h; exact h _ _ .non (I.tok _) rfl .non
    · rw [h5]; rw [h4] at h; exact h _ _ v (I.tok _) h6 h7
theorem dd_get2 {Q : Value → Shared → Prop} {y : V} {r : Value} (hu : A.units + 64 < cLine) (I : Inv X pins σ H s) (D : DctAt X.F H m a kds) (hk : kindB kds kd = true) (hx : Rp X.F H m x kd) (rx : RelV x u) (ry : RelV y r)
    (h1' : ∀ vd w' s' v, dLook kds kd = some vd → Inv X pins σ H s' → RelV v w' → Rp X.F H m v vd → Q w' s') (h2' : ∀ s', dLook kds kd = none → Inv X pins σ H s' → Q r s') : wpAny (model X.prog X.w) A (call (.builtin "dict.get") [.ref a, u, r]) Q E s := by
  have hd := (D.typeIs I).2.2
  obtain ⟨ok, es, ep, ha, hr⟩ := D
  obtain ⟨k1, k2⟩ := kind_of ok hk
  rcases k2 with ⟨e, k2⟩ | ⟨e, k2⟩
  · obtain ⟨b, k, rfl, rfl, e2, his⟩ := tup_key I e k1 hx rx
    obtain ⟨xs, h1, h2, h3⟩ := dct_H I ok k2 ha hr
    refine call_meetsIn PySem.F.slot_dict_get h2.typeIs PySem.F.entry_dict_get (PySem.F.args_dict_get_3 _ _ _) (meetsH_dict_get_default (nestedKind X.prog X.w) a b hd r) ⟨by show A.in1.units + 8 < cLine; rw [Around.in1_units]; omega, k, xs, his, h2, ?_⟩
    rcases xr_look e2 h1 with ⟨h4, h5⟩ | ⟨vd', p, v, h4, h5, h6, h7⟩
    · rw [h5]; exact h2' _ h4 (I.tok _)
    · rw [h5]; exact h1' vd' _ _ v h4 (I.tok _) h6 h7
  · obtain ⟨k, rfl, e2, his⟩ := lf_key e k1 hx rx
    obtain ⟨vs, h1, h2, h3⟩ := dct_L I ok k2 ha hr
    refine call_meetsIn PySem.F.slot_dict_get h2.typeIs PySem.F.entry_dict_get (PySem.F.args_dict_get_3 _ _ _) (meets_dict_get_default (mixKind X.prog X.w) a his hd r) ⟨_, h2.mapOf, ?_⟩
    rcases lr_look e2 h1 with ⟨h4, h5⟩ | ⟨vd', p, v, h4, h5, h6, h7⟩
    · rw [h5]; exact h2' _ h4 (I.tok _)
    · rw [h5]; exact h1' vd' _ _ v h4 (I.tok _) h6 h7
/-- d[k] = v -/
theorem dd_setItem {Q : Unit → Shared → Prop} {y : V} {r : Value} {vd : PyData} (hu : A.units + 64 < cLine) (I : Inv X pins σ H s) (D : DctAt X.F H m a kds) (hk : kindB kds kd = true) (hl : kds.length < sizeLine) (hx : Rp X.F H m x kd) (rx : RelV x u) (ry : RelV y r) (hy : Rp X.F H m y vd)
    (h : ∀ es' ep' s', RpD X.F H m es' (dPut kds kd vd) → Inv X pins σ (upd H a (dO a es' ep')) s' → Q () s') : wpAny (model X.prog X.w) A (setItem (.ref a) u r) Q E s := by
  have hd := (D.typeIs I).2.2
  obtain ⟨ok, es, ep, ha, hr⟩ := D
  obtain ⟨k1, k2⟩ := kind_of ok hk
  have mu : Mut (H a) := by rw [ha]; exact True.intro
  have fin : ∀ {es' : List DictEntry} {ep' : Nat} {h' : Heap} {t' : Nat} {o : Obj}, RpD X.F H m es' (dPut kds kd vd) → Heap.SameBut a s.heap h' → h'.get? a = some o → o.ExactDict → o.data = .dict es'.toArray ep' → Q () { s with heap := h', toks := t' } := fun {es' ep' h' t' o} q1 q2 q3 q4 q5 => by
    refine h es' ep' _ q1 (d_write I mu q2 ⟨o, q3⟩ (dO_ok hd ?_ q3 q4 q5))
    have := put_len (kds := kds) (kd := kd) (vd := vd)
    rw [q1.length]
    omega
  rcases k2 with ⟨e, k2⟩ | ⟨e, k2⟩
  · obtain ⟨b, k, rfl, rfl, e2, his⟩ := tup_key I e k1 hx rx
    obtain ⟨xs, h1, h2, h3⟩ := dct_H I ok k2 ha hr
    refine wpAny_setItem_heap (hsz := h3) (by show A.in1.units + 8 < cLine; rw [Around.in1_units]; omega) his h2 fun h' dd' hs => ?_
    obtain ⟨o, es', ep', q1, q2, q3, q4, _, _⟩ := dd'
    exact fin (es' := es'.toList) (xr_back (P := X.prog) (xr_put e2 hx ry hy h1) |> fun z => by rw [q4]; exact z) hs q1 q2 (by rw [Array.toArray_toList]; exact q3)
  · obtain ⟨k, rfl, e2, his⟩ := lf_key e k1 hx rx
    obtain ⟨vs, h1, h2, h3⟩ := dct_L I ok k2 ha hr
    refine wpAny_setItem_pairs (hsz := h3) his h2 fun h' dd' hs => ?_
    obtain ⟨o, es', ep', q1, q2, q3, q4, q5, _⟩ := dd'
    exact fin (es' := es'.toList) (lr_back (P := X.prog) (lr_put e2 hx ry hy h1) q5 fun e he => q4 e (by simpa using he)) hs q1 q2 (by rw [Array.toArray_toList]; exact q3)
/-- {} -/
theorem dd_new (I : Inv X pins σ H s) (t : Nat) : ObjOk X.prog X.w H' (s.heap.push { cls := .type "dict", data := .dict #[] }) s.heap.objs.size (dO s.heap.objs.size [] 0) :=
  dO_ok (by simpa using Nat.ne_of_gt I.big) (Nat.zero_le _) (Heap.get?_push_size _ rfl) ⟨rfl, rfl, rfl⟩ rfl
/-- len(d) -/
theorem dd_len {Q : Value → Shared → Prop} (I : Inv X pins σ H s) (D : DctAt X.F H m a kds) (hl : kds.length ≤ sizeLine)
    (h : ∀ t s', Inv X pins σ H s' → Q (.int kds.length t) s') : wpAny (model X.prog X.w) A (call (.builtin "len") [.ref a]) Q E s := by
  have hd := (D.typeIs I).2.2
  have hz : (kds.length : Int) < 2 ^ 63 := by have := sizeLine_eq; omega
  obtain ⟨ok, es, ep, ha, hr⟩ := D
  rcases ok.kind with k2 | k2
  · obtain ⟨xs, h1, h2, h3⟩ := dct_H I ok k2 ha hr
    have e := Paired.length h1
    refine call_len_dictH hd h2 (by rw [← e]; exact hz) ?_
    rw [← e]
    exact h _ _ (I.tok _)
  · obtain ⟨vs, h1, h2, h3⟩ := dct_L I ok k2 ha hr
    have e := Paired.length h1
    refine call_len_dict hd h2 (by rw [← e]; exact hz) ?_
    rw [← e]
    exact h _ _ (I.tok _)
end
theorem RpD.keys {K : Fg} : ∀ {kds : Kvs} {es : List DictEntry}, RpD K H m es kds → ∃ xs : List V, RpL K H m xs (kds.map (·.1)) ∧ Paired (fun (x : V) (e : DictEntry) => RelV x e.key) xs es
  | [], _, h => by cases h; exact ⟨[], .nil, .nil⟩
  | (kd, vd) :: kds, _, h => by
    cases h with
    | cons a1 b p q r s1 t =>
      obtain ⟨xs, h1, h2⟩ := RpD.keys t
      exact ⟨_ :: xs, .cons q h1, .cons p h2⟩
/-- list(d) -/
theorem dd_list {Q : VK} (hc : X.calm = true) (I : Inv X pins σ H s) (D : DctAt X.F H m a kds)
    (h : ∀ xs p, RpL X.F H m xs (kds.map (·.1)) → H p = none → Q (.ref p) (upd H p (.lst xs))) : wpAny (model X.prog X.w) X.A (call (.type "list") [.ref a]) (EP X pins σ Q) X.xe s := by
  obtain ⟨ok, es, ep, ha, hr⟩ := D
  obtain ⟨h1, h2, o, h3, h4, h5⟩ := dO_in I ha
  obtain ⟨xs, h6, h7⟩ := hr.keys
  have hl := Paired.length h7
  refine PySem.W.kdl_call (kdl_raw h1 h4 h5) (I.ok.hd hc) h3 (by simpa using h2) fun h' tk acc' c' kp e it => ?_
  have hsz : acc'.toList.length = es.length := by rw [Array.length_toList, it.1]; simp
  have rv : Vals xs acc'.toList := by
    refine vals_of_at (by rw [hsz]; exact hl) fun j x w e1 e2 => ?_
    obtain ⟨en, hen, hv⟩ := it.2 j w (by rw [← Array.getElem?_toList]; exact e2)
    obtain ⟨e', e3, e4⟩ := pairedGet h7 e1
    have e5 : es[j]? = some en := by simpa using hen
    rw [e5] at e3
    cases e3
    rw [hv]
    exact e4
  refine ⟨.ref s.heap.objs.size, _, I.laid (t' := tk) (o := .lst xs) kp (Nat.le_refl _) ?_, rfl, h xs _ h6 (I.hok.fresh (Nat.le_refl _))⟩
  exact ⟨by rw [hl]; exact h2, acc'.toList, c', rv, by rw [Array.toArray_toList]; exact e⟩
end
/-! ### the keys walked -/
theorem relV_inj {x y : V} {v : Value} (h1 : RelV x v) (h2 : RelV y v) : x = y := by
  cases x <;> cases y <;> simp only [RelV] at h1 h2 <;> first
    | rfl
    | (subst h1; cases h2; rfl; done)
    | (subst h1; cases h2; done)
    | (subst h1; obtain ⟨t, h2⟩ := h2; cases h2; done)
    | (obtain ⟨t, rfl⟩ := h1; cases h2; done)
    | (obtain ⟨t, rfl⟩ := h1; obtain ⟨u, h2⟩ := h2; cases h2; rfl; done)
    | (obtain ⟨t, rfl⟩ := h1; obtain ⟨u, h2⟩ := h2; cases h2; done)
def Itd (a : Addr) (es : List DictEntry) (ep : Nat) : It :=
  ⟨fun i H => H a = some (dO a es ep) ∧ i < es.length, fun i H x H' => H' = H ∧ ∃ e, es[i]? = some e ∧ RelV x e.key, fun i H => H a = some (dO a es ep) ∧ es.length ≤ i⟩
theorem rel_ex (v : Value) (h : ∃ x : V, RelV x v) : ∃ x : V, RelV x v := h
theorem turn_d {P : Program} {w : World} {K : PySem.W.Frag} {tg : Expr} {a : Addr} {es : List DictEntry} {ep : Nat} (it : Addr) (hes : ∀ e ∈ es, ∃ x : V, RelV x e.key) : Turn P w K tg (Itd a es ep) [it] it (fun i h => h.IsKeyIter it a i es.length ep) where
  mem := by simp
  obj := fun i h st b hb => by
    have e : b = it := by simpa using hb
    subst e
    obtain ⟨oi, e, c, dd⟩ := st
    exact ⟨oi, e, fun v z => by rw [dd] at z; cases z⟩
  keep := fun i h h' st k => st.at fun oi e => k it (by simp) oi e
  item := by
    intro X hP hw hK hc i pins s σ H E I hf st hg
    subst hP hw hK
    obtain ⟨hd, hi⟩ := hg
    obtain ⟨f0, f1, f2, f3, f4, f5⟩ := hf it (by simp)
    obtain ⟨h1, h2, o, h3, h4, h5⟩ := dO_in I hd
    have hen : es[i]? = some es[i] := List.getElem?_eq_getElem hi
    obtain ⟨x, hx⟩ := hes es[i] (List.getElem_mem hi)
    refine next_key_item st h3 h5 (by simp) (en := es[i]) (by simpa using hen) fun h' st' sb => ?_
    have I1 : Inv X pins σ H { s with heap := h' } := I.turned (t' := s.toks) (fun b ob hb e => (sb.2 b hb).trans e) f0 f1 f3 f4 f5
    obtain ⟨oi, e, c, dd⟩ := id st'
    exact ⟨es[i].key, rfl, go_of (s := { s with heap := h' }) e c dd (by decide) ⟨x, H, I1, hx, ⟨rfl, _, hen, hx⟩, st', fun b hb => (hf b hb).1⟩⟩
  done := by
    intro X hP hw hK hc i pins s σ H E I hf st hg
    subst hP hw hK
    obtain ⟨hd, hi⟩ := hg
    obtain ⟨f0, f1, f2, f3, f4, f5⟩ := hf it (by simp)
    obtain ⟨h1, h2, o, h3, h4, h5⟩ := dO_in I hd
    exact next_key_end (I.ok.hd hc) st h3 h5 (by simp) hi fun h' eb => ⟨rfl, I.turned (t' := s.toks) (fun b ob hb e => eb b ob hb e) f0 f1 f3 f4 f5⟩
  self := fun A i s Q E st h => by
    refine wpAny_pyIter_slot st.typeIs F.slot_dict_keyiterator_iter (wpAny_call_entry F.slot_dict_keyiterator_iter st.typeIs F.entry_dict_keyiterator_iter ?_ (F.args_dict_keyiterator_iter_1 _))
    show wpAny _ _ (ret (.ref it)) _ _ s
    exact wpAny_pure ⟨_, rfl, "dict_keyiterator", _, st.typeIs, F.slot_dict_keyiterator_next.lookup, h⟩
def iDct (td : TE) : TI := fun σ H R => td σ H fun x H1 => ∃ a es ep, x = .ref a ∧ H1 a = some (dO a es ep) ∧ (∀ e ∈ es, ∃ x : V, RelV x e.key) ∧ R (Itd a es ep) H1
theorem pi_dct {X : Cx} {tg e : Expr} {td : TE} (he : PE X e td) : PI X tg e (iDct td) := by
  refine ⟨fun pins s σ H R I h => ?_⟩
  refine thn (he.run pins s σ H _ I h) fun u s1 ⟨x, H1, I1, rx, a, es, ep, ex, hd, hes, q⟩ => ?_
  subst ex
  obtain rfl : u = Value.ref a := rx
  obtain ⟨h1, h2, o, h3, h4, h5⟩ := dO_in I1 hd
  refine iter_keys h1 h3 h4 h5 (pi_one (tk := s1.toks) I1 _ (turn_d _ hes) ⟨_, Heap.get?_push_size _ rfl, rfl, ?_⟩ q)
  simp
/-- the walk yields the keys -/
theorem itr_d {K : Fg} {H : Hp} {m : List Addr} {a : Addr} {es : List DictEntry} {ep : Nat} {kds : Kvs} (h : H a = some (dO a es ep)) (hm : a ∉ m) (r : RpD K H m es kds) : ∀ m1 H1, Cov m H m1 H1 → (∀ i d, (kds.map (·.1))[i]? = some d → (Itd a es ep).go i H1 ∧ ∀ x H2, (Itd a es ep).yld i H1 x H2 → (H2 = H1 ∨ ∃ T o, H1 T = none ∧ H2 = upd H1 T o) ∧ Rp K H2 m1 x d) ∧ ∀ i, (kds.map (·.1)).length ≤ i → (Itd a es ep).stop i H1 := fun m1 H1 cv => by
  have h1 := cv.keep _ _ h hm
  obtain ⟨xs, k1, k2⟩ := (RpD.cov cv _ _ r).keys
  have hl := Paired.length k2
  have hl2 := k1.length
  refine ⟨fun i d e => ?_, fun i hi => ⟨h1, by omega⟩⟩
  obtain ⟨x, e1, e2⟩ := k1.get e
  obtain ⟨en, e3, e4⟩ := pairedGet k2 e1
  refine ⟨⟨h1, (List.getElem?_eq_some_iff.mp e3).1⟩, fun y H2 hy => ?_⟩
  obtain ⟨rfl, en', e5, e6⟩ := hy
  rw [e3] at e5
  cases e5
  rw [relV_inj e6 e4]
  exact ⟨.inl rfl, e2⟩
theorem keys_rel {K : Fg} {H : Hp} {m : List Addr} {es : List DictEntry} {kds : Kvs} (r : RpD K H m es kds) : ∀ e ∈ es, ∃ x : V, RelV x e.key := by
  obtain ⟨xs, _, k2⟩ := r.keys
  intro e he
  obtain ⟨i, hi, rfl⟩ := List.mem_iff_getElem.mp he
  obtain ⟨x, _, h⟩ := pairedGetR k2 (List.getElem?_eq_getElem hi)
  exact ⟨x, h⟩
end L2.Pv

set_option Elab.async false
set_option linter.all false
set_option maxRecDepth 100000
namespace L2.Pv
open PySem PySem.Spec PyProof.Rows L2

/-! ### comparisons -/
def dEqB (a b : PyData) : Option Bool := if min a.depth b.depth ≤ 60 ∧ a.plain = true ∧ b.plain = true then some (PyData.eqv a b) else none
def dLtB : PyData → PyData → Option Bool
  | .int i, .int j => some (decide (i < j))
  | .str a, .str b => some (decide (a.cps.toList < b.cps.toList))
  | .tuple a, .tuple b => if PySem.W.alike (.tuple a) (.tuple b) = true ∧ min (PyData.depth (.tuple a)) (PyData.depth (.tuple b)) ≤ 60 ∧ PyData.plain (.tuple a) = true ∧ PyData.plain (.tuple b) = true then some (PySem.W.dataLt (.tuple a) (.tuple b)) else none
  | .list a, .list b => if PySem.W.alike (.list a) (.list b) = true ∧ min (PyData.depth (.list a)) (PyData.depth (.list b)) ≤ 60 ∧ PyData.plain (.list a) = true ∧ PyData.plain (.list b) = true then some (PySem.W.dataLt (.list a) (.list b)) else none
  | _, _ => none
def dInB : PyData → PyData → Option Bool
  | .str a, .str z => match a.cps.toList with
    | [c] => some (decide (c ∈ z.cps.toList))
    | _ => some (!(Builtin.Str.occurrences z a 0 z.length 1).isEmpty)
  | d, .list ds => if min (PyData.depthAll ds) d.depth ≤ 60 ∧ PyData.plainAll ds = true ∧ d.plain = true then some (ds.any fun z => PyData.eqv z d) else none
  | d, .tuple ds => if min (PyData.depthAll ds) d.depth ≤ 60 ∧ PyData.plainAll ds = true ∧ d.plain = true then some (ds.any fun z => PyData.eqv z d) else none
  | d, .dict kds => if kindB kds d = true then some (dLook kds d).isSome else none
  | _, _ => none
def obl : Option Bool → Option PyData := Option.map .bool
def onot : Option Bool → Option Bool := Option.map (!·)
def dEq (a b : PyData) : Option PyData := obl (dEqB a b)
def dNe (a b : PyData) : Option PyData := obl (onot (dEqB a b))
def dLt (a b : PyData) : Option PyData := obl (dLtB a b)
def dGt (a b : PyData) : Option PyData := obl (dLtB b a)
def dLe (a b : PyData) : Option PyData := obl (onot (dLtB b a))
def dGe (a b : PyData) : Option PyData := obl (onot (dLtB a b))
def dIn (a b : PyData) : Option PyData := obl (dInB a b)
def dNotIn (a b : PyData) : Option PyData := obl (onot (dInB a b))

theorem obl_ok {o : Option Bool} {c : PyData} (h : obl o = some c) : ∃ b, o = some b ∧ c = .bool b := by
  cases o with
  | none => cases h
  | some b => cases h; exact ⟨b, rfl, rfl⟩
theorem onot_ok {o : Option Bool} {c : Bool} (h : onot o = some c) : ∃ b, o = some b ∧ c = !b := by
  cases o with
  | none => cases h
  | some b => cases h; exact ⟨b, rfl, rfl⟩

/-! ### a store's object read -/
def lstOf (S : Sto) (n : Nat) : Option (List PyData) := match S[n]? with
  | some (.lst ds) => some ds
  | _ => none
theorem lstOf_ok {S : Sto} {n : Nat} {ds : List PyData} (h : lstOf S n = some ds) : S[n]? = some (.lst ds) := by
  unfold lstOf at h
  split at h
  · rename_i e
    cases h
    exact e
  · cases h
def dctOf (S : Sto) (n : Nat) : Option Kvs := match S[n]? with
  | some (.dct ds) => some ds
  | _ => none
theorem dctOf_ok {S : Sto} {n : Nat} {ds : Kvs} (h : dctOf S n = some ds) : S[n]? = some (.dct ds) := by
  unfold dctOf at h
  split at h
  · rename_i e
    cases h
    exact e
  · cases h
theorem dct_no {S : Sto} {n : Nat} {ds : List PyData} (h : lstOf S n = some ds) : dctOf S n = none := by
  unfold dctOf
  rw [lstOf_ok h]
theorem lst_no {S : Sto} {n : Nat} {ds : Kvs} (h : dctOf S n = some ds) : lstOf S n = none := by
  unfold lstOf
  rw [dctOf_ok h]
section
variable {K : Fx} {H : Hp} {ρ : Pl} {S : Sto}
/-- a dict, whatever it is -/
def dcV (S : Sto) : Vl → Option Kvs
  | .d (.dict kds) => some kds
  | .o n => dctOf S n
  | _ => none
theorem StR.dctAt (h : StR K ρ S H) {n : Nat} {a : Addr} {kds : Kvs} (ha : ρ.ad[n]? = some a) (ho : dctOf S n = some kds) : a ∈ ρ.m ∧ DctAt K H ρ.m a kds := by
  obtain ⟨_, h1, es, ep, h2, h3, h4⟩ := h.get ha (dctOf_ok ho)
  exact ⟨h1, h3, es, ep, h2, h4⟩
theorem dc_rp (h : StR K ρ S H) {v : Vl} {x : V} {kds : Kvs} (hv : Vr K H ρ x v) (e : dcV S v = some kds) : ∃ a, x = .ref a ∧ DctAt K H ρ.m a kds := by
  unfold dcV at e
  split at e
  · cases e
    cases (show Rp _ _ _ _ _ from hv) with
    | dct h1 h2 h3 h4 => exact ⟨_, rfl, h3, _, _, h1, h4⟩
  · obtain ⟨a, ha, rfl⟩ := hv
    exact ⟨a, rfl, (h.dctAt ha e).2⟩
  · cases e
theorem StR.lstAt (h : StR K ρ S H) {n : Nat} {a : Addr} {ds : List PyData} (ha : ρ.ad[n]? = some a) (ho : lstOf S n = some ds) : ∃ xs, H a = some (.lst xs) ∧ RpL K H ρ.m xs ds := let ⟨_, h1⟩ := h.get ha (lstOf_ok ho); h1.2
theorem StR.lstIn (h : StR K ρ S H) {n : Nat} {a : Addr} {ds : List PyData} (ha : ρ.ad[n]? = some a) (ho : lstOf S n = some ds) : a ∈ ρ.m := let ⟨_, h1⟩ := h.get ha (lstOf_ok ho); h1.1
/-- what a value shows when it is only read -/
def rdV (S : Sto) : Vl → Option PyData
  | .d d => some d
  | .o n => match lstOf S n with
    | some ds => some (.list ds)
    | none => (dctOf S n).map .dict
  | .k _ => none
  | .x _ _ => none
theorem rdV_rp (hS : StR K ρ S H) {v : Vl} {x : V} {d : PyData} (h : Vr K H ρ x v) (e : rdV S v = some d) : Rp K H [] x d := by
  cases v with
  | d d0 =>
    cases e
    exact Rp.cov (Cov.less (fun a z => by cases z)) _ _ (show Rp K H ρ.m x d from h)
  | o n =>
    obtain ⟨a, ha, rfl⟩ := h
    simp only [rdV] at e
    split at e
    · rename_i ds e1
      cases e
      obtain ⟨xs, h1, h2⟩ := hS.lstAt ha e1
      exact .lst ⟨h1, fun z => by cases z⟩ (RpL.cov (Cov.less (fun a z => by cases z)) _ _ h2)
    · obtain ⟨kds, e1, rfl⟩ := Option.map_eq_some_iff.mp e
      obtain ⟨_, h3, es, ep, h2, h4⟩ := hS.dctAt ha e1
      exact .dct h2 (fun z => by cases z) h3 (RpD.cov (Cov.less (fun a z => by cases z)) _ _ h4)
  | k ds => cases e
  | x c fs => cases e
end
/-- an operation on what is read -/
def cmp2 (h : PyData → PyData → Option PyData) : G2 := fun a b S => match rdV S a with
  | some a => match rdV S b with
    | some b => lft S (h a b)
    | none => .bad
  | none => .bad
theorem cmp2_ok {h : PyData → PyData → Option PyData} {va vb r : Vl} {S S' : Sto} (e : cmp2 h va vb S = .ok r S') : ∃ a b c, rdV S va = some a ∧ rdV S vb = some b ∧ h a b = some c ∧ r = .d c ∧ S' = S := by
  unfold cmp2 at e
  split at e
  · rename_i a ha
    split at e
    · rename_i b hb
      obtain ⟨c, h1, h2, h3⟩ := lft_ok e
      exact ⟨a, b, c, ha, hb, h1, h2, h3⟩
    · cases e
  · cases e

section
variable {X : Cx} {pins : List (Addr × Obj)} {σ : L2.St} {H : Hp} {s : Shared} {ρ : Pl} {m : List Addr} {S : Sto} {Q : VK}
theorem rd_reads (I : Inv X pins σ H s) {d : PyData} {x : V} {u : Value} (p : d.plain = true) (h : Rp X.F H m x d) (r : RelV x u) : ∃ as, Reads s.heap u d as := Dp.reads I d x u (Rp.dp d x p h) r
/-- an operation on data that yields a bool -/
theorem opd_bool {f : Value → Value → Sem Value} {g : PyData → PyData → Option PyData} (h : ∀ (a b : PyData) (c : Bool) (x y : V) (v u : Value) (pins : List (Addr × Obj)) (s : Shared) (σ : L2.St) (H : Hp) (m : List Addr) (Q : Value → Shared → Prop),
      Inv X pins σ H s → RelV x v → RelV y u → Rp X.F H m x a → Rp X.F H m y b → g a b = some (.bool c) → (∀ s', Inv X pins σ H s' → Q (.bool c) s') → wpAny (model X.prog X.w) X.A (f v u) Q X.xe s) (hg : ∀ a b c, g a b = some c → ∃ k, c = .bool k) : OpR X f (rD X.F (cmp2 g)) := by
  intro pins s σ H x y v u Q I rx ry hh
  obtain ⟨ρ, S, va, vb, r, S', hS, ha, hb, hgg, hc⟩ := hh
  obtain ⟨a, b, c, ea, eb, hd, rfl, rfl⟩ := cmp2_ok hgg
  obtain ⟨k, rfl⟩ := hg _ _ _ hd
  exact h a b k x y v u pins s σ H [] _ I rx ry (rdV_rp hS ha ea) (rdV_rp hS hb eb) hd fun s' I' => ⟨.bl k, H, I', rfl, hc.here hS (show Rp _ _ _ _ _ from .bl k)⟩
variable (hu : X.A.units + 64 < cLine)
include hu
theorem opd_eq : OpR X (compareOp .Eq) (rD X.F (cmp2 dEq)) := opd_bool (fun a b c x y v u pins s σ H m Q I rx ry ha hb hd q => by
    obtain ⟨k, h1, h2⟩ := obl_ok hd
    cases h2
    unfold dEqB at h1
    split at h1
    · rename_i hz
      cases h1
      obtain ⟨as, r1⟩ := rd_reads I hz.2.1 ha rx
      obtain ⟨bs, r2⟩ := rd_reads I hz.2.2 hb ry
      exact SeqAt.compareEq_reads r1 r2 (Rp.lay _ _ hz.2.1 ha) (Rp.lay _ _ hz.2.2 hb) (by omega) (q s I)
    · cases h1) fun a b c h => let ⟨k, _, e⟩ := obl_ok h; ⟨k, e⟩
theorem opd_ne : OpR X (compareOp .NotEq) (rD X.F (cmp2 dNe)) := opd_bool (fun a b c x y v u pins s σ H m Q I rx ry ha hb hd q => by
    obtain ⟨k0, h0, h2⟩ := obl_ok hd
    cases h2
    obtain ⟨k, h1, rfl⟩ := onot_ok h0
    unfold dEqB at h1
    split at h1
    · rename_i hz
      cases h1
      obtain ⟨as, r1⟩ := rd_reads I hz.2.1 ha rx
      obtain ⟨bs, r2⟩ := rd_reads I hz.2.2 hb ry
      exact SeqAt.compareNe_reads r1 r2 (Rp.lay _ _ hz.2.1 ha) (Rp.lay _ _ hz.2.2 hb) (by omega) (q s I)
    · cases h1) fun a b c h => let ⟨k, _, e⟩ := obl_ok h; ⟨k, e⟩
theorem dLtB_inv {a b : PyData} {k : Bool} (h : dLtB a b = some k) : PySem.W.alike a b = true ∧ a ≠ .none ∧ b ≠ .none ∧ X.A.units + min a.depth b.depth < cLine ∧ (k = PySem.W.dataLt a b ∧ a.plain = true ∧ b.plain = true) := by
  unfold dLtB at h
  split at h
  · cases h
    exact ⟨rfl, (fun z => nomatch z), (fun z => nomatch z), by show X.A.units + min 0 0 < cLine; omega, (PySem.W.dataLt_int _ _).symm, rfl, rfl⟩
  · cases h
    exact ⟨rfl, (fun z => nomatch z), (fun z => nomatch z), by show X.A.units + min 0 0 < cLine; omega, (PySem.W.dataLt_str _ _).symm, rfl, rfl⟩
  · split at h
    · rename_i hz
      cases h
      exact ⟨hz.1, (fun z => nomatch z), (fun z => nomatch z), by omega, rfl, hz.2.2⟩
    · cases h
  · split at h
    · rename_i hz
      cases h
      exact ⟨hz.1, (fun z => nomatch z), (fun z => nomatch z), by omega, rfl, hz.2.2⟩
    · cases h
  · cases h
theorem opd_lt : OpR X (compareOp .Lt) (rD X.F (cmp2 dLt)) := opd_bool (fun a b c x y v u pins s σ H m Q I rx ry ha hb hd q => by
    obtain ⟨k, h1, h2⟩ := obl_ok hd
    cases h2
    obtain ⟨h3, h4, h5, h6, rfl, p1, p2⟩ := dLtB_inv hu h1
    obtain ⟨as, r1⟩ := rd_reads I p1 ha rx
    obtain ⟨bs, r2⟩ := rd_reads I p2 hb ry
    exact PySem.W.lt_data r1 r2 h3 h4 h6 (q s I)) fun a b c h => let ⟨k, _, e⟩ := obl_ok h; ⟨k, e⟩
omit hu in
mutual
theorem alike_symm : ∀ (a b : PyData), PySem.W.alike a b = true → PySem.W.alike b a = true
  | .none, b, h => by cases b <;> first | rfl | (simp [PySem.W.alike] at h)
  | .bool _, b, h => by cases b <;> first | rfl | (simp [PySem.W.alike] at h)
  | .int _, b, h => by cases b <;> first | rfl | (simp [PySem.W.alike] at h)
  | .str _, b, h => by cases b <;> first | rfl | (simp [PySem.W.alike] at h)
  | .list xs, b, h => by
    cases b with
    | list ys => exact alikeAll_symm xs ys h
    | _ => simp [PySem.W.alike] at h
  | .tuple xs, b, h => by
    cases b with
    | tuple ys => exact alikeAll_symm xs ys h
    | _ => simp [PySem.W.alike] at h
  | .dict _, b, h => by cases b <;> simp [PySem.W.alike] at h
theorem alikeAll_symm : ∀ (a b : List PyData), PySem.W.alikeAll a b = true → PySem.W.alikeAll b a = true
  | [], [], h => rfl
  | [], _ :: _, h => rfl
  | _ :: _, [], h => rfl
  | x :: xs, y :: ys, h => by
    have h' := PySem.W.alike_all_cons h
    show (PySem.W.alike y x && PySem.W.alikeAll ys xs) = true
    rw [alike_symm x y h'.1, alikeAll_symm xs ys h'.2]
    rfl
end
theorem opd_gt : OpR X (compareOp .Gt) (rD X.F (cmp2 dGt)) := opd_bool (fun a b c x y v u pins s σ H m Q I rx ry ha hb hd q => by
    obtain ⟨k, h1, h2⟩ := obl_ok hd
    cases h2
    obtain ⟨h3, h4, h5, h6, rfl, p1, p2⟩ := dLtB_inv hu h1
    obtain ⟨as, r1⟩ := rd_reads I p2 ha rx
    obtain ⟨bs, r2⟩ := rd_reads I p1 hb ry
    exact PySem.W.gt_data r1 r2 (alike_symm _ _ h3) h5 (by rw [Nat.min_comm]; exact h6) (q s I)) fun a b c h => let ⟨k, _, e⟩ := obl_ok h; ⟨k, e⟩
theorem opd_le : OpR X (compareOp .LtE) (rD X.F (cmp2 dLe)) := opd_bool (fun a b c x y v u pins s σ H m Q I rx ry ha hb hd q => by
    obtain ⟨k0, h0, h2⟩ := obl_ok hd
    cases h2
    obtain ⟨k, h1, rfl⟩ := onot_ok h0
    obtain ⟨h3, h4, h5, h6, rfl, p1, p2⟩ := dLtB_inv hu h1
    obtain ⟨as, r1⟩ := rd_reads I p2 ha rx
    obtain ⟨bs, r2⟩ := rd_reads I p1 hb ry
    exact PySem.W.le_data r1 r2 (alike_symm _ _ h3) h5 (by rw [Nat.min_comm]; exact h6) (q s I)) fun a b c h => let ⟨k, _, e⟩ := obl_ok h; ⟨k, e⟩
theorem opd_ge : OpR X (compareOp .GtE) (rD X.F (cmp2 dGe)) := opd_bool (fun a b c x y v u pins s σ H m Q I rx ry ha hb hd q => by
    obtain ⟨k0, h0, h2⟩ := obl_ok hd
    cases h2
    obtain ⟨k, h1, rfl⟩ := onot_ok h0
    obtain ⟨h3, h4, h5, h6, rfl, p1, p2⟩ := dLtB_inv hu h1
    obtain ⟨as, r1⟩ := rd_reads I p1 ha rx
    obtain ⟨bs, r2⟩ := rd_reads I p2 hb ry
    exact PySem.W.ge_data r1 r2 h3 h4 h6 (q s I)) fun a b c h => let ⟨k, _, e⟩ := obl_ok h; ⟨k, e⟩
theorem opd_in : OpR X (compareOp .In) (rD X.F (cmp2 dIn)) := opd_bool (fun a b c x y v u pins s σ H m Q I rx ry ha hb hd q => by
    obtain ⟨k, h1, h2⟩ := obl_ok hd
    cases h2
    unfold dInB at h1
    split at h1
    · rename_i a0 z0
      cases ha
      cases hb
      obtain ⟨t, rfl⟩ := rx
      obtain ⟨t', rfl⟩ := ry
      split at h1
      · rename_i c0 hc
        cases h1
        have e : a0 = ⟨#[c0]⟩ := by
          cases a0
          simp only at hc
          congr 1
          apply Array.toList_inj.mp
          exact hc
        subst e
        refine PyProof.Rows.in_str ?_
        rw [PySem.StrLaws.found_one z0 c0]
        exact q s I
      · cases h1
        exact PyProof.Rows.in_str (q s I)
    · split at h1
      · rename_i hz
        cases h1
        obtain ⟨as, r1⟩ := rd_reads I hz.2.2 ha rx
        obtain ⟨bs, r2⟩ := rd_reads I (d := .list _) (by simpa [PyData.plain] using hz.2.1) hb ry
        exact SeqAt.in_list_reads r2 r1 (Rp.lay (.list _) _ (by simpa [PyData.plain] using hz.2.1) hb) (Rp.lay _ _ hz.2.2 ha) (by omega) (q s I)
      · cases h1
    · split at h1
      · rename_i hz
        cases h1
        obtain ⟨as, r1⟩ := rd_reads I hz.2.2 ha rx
        obtain ⟨bs, r2⟩ := rd_reads I (d := .tuple _) (by simpa [PyData.plain] using hz.2.1) hb ry
        exact SeqAt.in_tuple_reads r2 r1 (Rp.lay (.tuple _) _ (by simpa [PyData.plain] using hz.2.1) hb) (Rp.lay _ _ hz.2.2 ha) (by omega) (q s I)
      · cases h1
    · split at h1
      · rename_i hz
        cases h1
        cases hb with
        | dct b1 b2 b3 b4 =>
          cases ry
          exact dd_in hu I ⟨b3, _, _, b1, b4⟩ hz ha rx fun s' I' => q s' I'
      · cases h1
    · cases h1) fun a b c h => let ⟨k, _, e⟩ := obl_ok h; ⟨k, e⟩
theorem opd_notIn : OpR X (compareOp .NotIn) (rD X.F (cmp2 dNotIn)) := opd_bool (fun a b c x y v u pins s σ H m Q I rx ry ha hb hd q => by
    obtain ⟨k0, h0, h2⟩ := obl_ok hd
    cases h2
    obtain ⟨k, h1, rfl⟩ := onot_ok h0
    unfold dInB at h1
    split at h1
    · rename_i a0 z0
      cases ha
      cases hb
      obtain ⟨t, rfl⟩ := rx
      obtain ⟨t', rfl⟩ := ry
      split at h1
      · rename_i c0 hc
        cases h1
        have e : a0 = ⟨#[c0]⟩ := by
          cases a0
          simp only at hc
          congr 1
          apply Array.toList_inj.mp
          exact hc
        subst e
        refine PyProof.Rows.notIn_str ?_
        rw [PySem.StrLaws.found_one z0 c0]
        exact q s I
      · cases h1
        exact PyProof.Rows.notIn_str (q s I)
    · split at h1
      · rename_i hz
        cases h1
        obtain ⟨as, r1⟩ := rd_reads I hz.2.2 ha rx
        obtain ⟨bs, r2⟩ := rd_reads I (d := .list _) (by simpa [PyData.plain] using hz.2.1) hb ry
        exact SeqAt.notIn_list_reads r2 r1 (Rp.lay (.list _) _ (by simpa [PyData.plain] using hz.2.1) hb) (Rp.lay _ _ hz.2.2 ha) (by omega) (q s I)
      · cases h1
    · split at h1
      · rename_i hz
        cases h1
        obtain ⟨as, r1⟩ := rd_reads I hz.2.2 ha rx
        obtain ⟨bs, r2⟩ := rd_reads I (d := .tuple _) (by simpa [PyData.plain] using hz.2.1) hb ry
        exact SeqAt.notIn_tuple_reads r2 r1 (Rp.lay (.tuple _) _ (by simpa [PyData.plain] using hz.2.1) hb) (Rp.lay _ _ hz.2.2 ha) (by omega) (q s I)
      · cases h1
    · split at h1
      · rename_i hz
        cases h1
        cases hb with
        | dct b1 b2 b3 b4 =>
          cases ry
          exact dd_notIn hu I ⟨b3, _, _, b1, b4⟩ hz ha rx fun s' I' => q s' I'
      · cases h1
    · cases h1) fun a b c h => let ⟨k, _, e⟩ := obl_ok h; ⟨k, e⟩
end
end L2.Pv

set_option Elab.async false
set_option linter.all false
set_option maxRecDepth 100000
namespace L2.Pv
open PySem PySem.Spec PyProof.Rows L2

/-- a list or a tuple, whatever it is -/
inductive Sq where
  | l (ds : List PyData)
  | t (ds : List PyData)
def sqOf (S : Sto) : Vl → Option Sq
  | .d (.list ds) => some (.l ds)
  | .d (.tuple ds) => some (.t ds)
  | .k ds => some (.l ds)
  | .o n => (lstOf S n).map .l
  | _ => none
section
variable {X : Cx} {pins : List (Addr × Obj)} {σ : L2.St} {H : Hp} {s : Shared} {ρ : Pl} {S : Sto} {Q : VK} {K : Fx}
theorem sq_l (h : StR K ρ S H) {v : Vl} {x : V} {ds : List PyData} (hv : Vr K H ρ x v) (e : sqOf S v = some (.l ds)) : ∃ a xs, x = .ref a ∧ SqL K.K H a xs ∧ RpL K H ρ.m xs ds := by
  unfold sqOf at e
  split at e
  · cases e
    cases (show Rp _ _ _ _ _ from hv) with
    | lst ta qa => exact ⟨_, _, rfl, ta.sq, qa⟩
  · cases e
  · cases e
    obtain ⟨a, xs, e1, h1, h2⟩ := hv
    exact ⟨a, xs, e1, h1.sq, h2⟩
  · rename_i n
    obtain ⟨ds', h1, h2⟩ := Option.map_eq_some_iff.mp e
    cases h2
    obtain ⟨a, ha, e1⟩ := hv
    obtain ⟨xs, h3, h4⟩ := h.lstAt ha h1
    exact ⟨a, xs, e1, .of h3, h4⟩
  · cases e
theorem sq_t {v : Vl} {x : V} {ds : List PyData} (hv : Vr K H ρ x v) (e : sqOf S v = some (.t ds)) : v = .d (.tuple ds) ∧ ∃ a xs, x = .ref a ∧ SqT K.K H a xs ∧ RpL K H ρ.m xs ds := by
  unfold sqOf at e
  split at e
  · cases e
  · cases e
    cases (show Rp _ _ _ _ _ from hv) with
    | tup ta qa => exact ⟨rfl, _, _, rfl, ta.sq, qa⟩
  · cases e
  · obtain ⟨ds', h1, h2⟩ := Option.map_eq_some_iff.mp e
    cases h2
  · cases e
theorem RpL.atI {m : List Addr} {ds : List PyData} {xs : List V} {i : Int} {d : PyData} (h : RpL K H m xs ds) (e : atI ds i = some d) : ∃ x, L2.atI xs i = some x ∧ Rp K H m x d := by
  unfold L2.atI at e ⊢
  rw [h.length]
  cases hj : ixN ds.length i with
  | none => rw [hj] at e; cases e
  | some j =>
    rw [hj] at e
    obtain ⟨x, h1, h2⟩ := h.get (i := j) (show ds[j]? = some d from e)
    exact ⟨x, h1, h2⟩

/-! ### subscripts -/
def gIx : G2 := fun a b S => match sqOf S a with
  | some (.l ds) => match b with
    | .d (.int i) => lft S (atI ds i)
    | _ => .bad
  | some (.t ds) => match b with
    | .d (.int i) => lft S (atI ds i)
    | _ => .bad
  | none => match dcV S a with
    | some kds => match b with
      | .d k => if kindB kds k = true then lft S (dLook kds k) else .bad
      | _ => .bad
    | none => match a, b with
      | .d (.str z), .d (.int i) => if z.length ≤ SZ then lft S ((atI z.cps.toList i).map fun c => .str ⟨#[c]⟩) else .bad
      | _, _ => .bad
theorem atI_mem {α : Type} {xs : List α} {i : Int} {c : α} (h : atI xs i = some c) : c ∈ xs := by
  unfold atI at h
  cases hj : ixN xs.length i with
  | none => rw [hj] at h; cases h
  | some j => rw [hj] at h; exact List.mem_of_getElem? (show xs[j]? = some c from h)
theorem ixd (hu : X.A.units + 64 < cLine) : IxR X (rD X.F gIx) := by
  intro value slice pins s σ H x y v u Q I rx ry h hs
  obtain ⟨ρ, S, va, vb, r, S', hS, ha, hb, hg, hc⟩ := h
  unfold gIx at hg
  split at hg
  · rename_i ds e
    split at hg
    · rename_i i
      cases (show Rp _ _ _ _ _ from hb)
      obtain ⟨d, h1, rfl, rfl⟩ := lft_ok hg
      obtain ⟨a, xs, rfl, h2, h3⟩ := sq_l hS ha e
      obtain ⟨z, h4, h5⟩ := h3.atI h1
      exact ix_list value slice pins s σ H _ _ v u Q I rx ry ⟨_, _, _, _, rfl, rfl, h2, h4, hc.here hS h5⟩ hs
    · cases hg
  · rename_i ds e
    split at hg
    · rename_i i
      cases (show Rp _ _ _ _ _ from hb)
      obtain ⟨d, h1, rfl, rfl⟩ := lft_ok hg
      obtain ⟨_, a, xs, rfl, h2, h3⟩ := sq_t ha e
      obtain ⟨z, h4, h5⟩ := h3.atI h1
      exact ix_tup value slice pins s σ H _ _ v u Q I rx ry ⟨_, _, _, _, rfl, rfl, h2, h4, hc.here hS h5⟩ hs
    · cases hg
  · split at hg
    · rename_i kds e
      split at hg
      · rename_i k
        split at hg
        · rename_i hk
          obtain ⟨d, h1, rfl, rfl⟩ := lft_ok hg
          obtain ⟨a, rfl, D⟩ := dc_rp hS ha e
          cases rx
          refine tail_any (ops := [.ref a, u]) (D.typeIs I).1 PySem.F.slot_dict_getitem.lookup ?_ hs
          exact dd_getItem hu I D hk hb ry h1 fun w' s' z I' rz hz => ⟨z, H, I', rz, hc.here hS hz⟩
        · cases hg
      · cases hg
    · split at hg
      · rename_i z i e
        split at hg
        · rename_i hz
          obtain ⟨d, h1, rfl, rfl⟩ := lft_ok hg
          obtain ⟨c, h2, rfl⟩ := Option.map_eq_some_iff.mp h1
          cases (show Rp _ _ _ _ _ from hb)
          cases (show Rp _ _ _ _ _ from ha) with
          | str _ ok => exact ix_str value slice pins s σ H _ _ v u Q I rx ry ⟨_, _, _, rfl, rfl, by rw [← SZ_eq]; exact hz, h2, fin_str I hS (strOk_sub ok fun c' hc' => by
              have e2 : c' = c := by simpa using hc'
              subst e2
              exact atI_mem h2) hc⟩ hs
        · cases hg
      · cases hg

/-! ### slices -/
def cutD {α : Type} (xs : List α) (lo hi : Option Int) : List α := (xs.drop (HT.sIx xs.length 0 lo)).take (HT.sIx xs.length xs.length hi - HT.sIx xs.length 0 lo)
theorem RpL.cut {m : List Addr} {ds : List PyData} {xs : List V} (h : RpL K H m xs ds) (lo hi : Option Int) : RpL K H m (cutV xs lo hi) (cutD ds lo hi) := by
  unfold cutV cutD
  rw [h.length]
  exact (h.drop _).take _
def gSl (a : Vl) (lo hi : Option Int) (S : Sto) : R Vl := match sqOf S a with
  | some (.l ds) => .ok (.d (.list (cutD ds lo hi))) S
  | some (.t ds) => .ok (.d (.tuple (cutD ds lo hi))) S
  | none => match a with
    | .d (.str z) => if z.length ≤ SZ then .ok (.d (.str ⟨(cutD z.cps.toList lo hi).toArray⟩)) S else .bad
    | _ => .bad
theorem cutD_all {α : Type} (xs : List α) (lo hi : Option Int) (h : HT.sIx xs.length 0 lo = 0 ∧ HT.sIx xs.length xs.length hi = xs.length) : cutD xs lo hi = xs := by
  unfold cutD
  rw [h.1, h.2, List.drop_zero, Nat.sub_zero, List.take_length]
theorem sld : SlR X (rDS X.F gSl) := by
  intro pins s σ H x v vl vu lo hi sl Q I rx hs pl pu h
  obtain ⟨ρ, S, va, r, S', hS, ha, hg, hc⟩ := h
  unfold gSl at hg
  split at hg
  · rename_i ds e
    cases hg
    obtain ⟨a, xs, rfl, h2, h3⟩ := sq_l hS ha e
    exact sl_list pins s σ H _ v vl vu lo hi sl Q I rx hs pl pu ⟨_, _, rfl, h2, fin_lst hS (h3.cut lo hi) hc⟩
  · rename_i ds e
    cases hg
    obtain ⟨_, a, xs, rfl, h2, h3⟩ := sq_t ha e
    refine sl_tupA pins s σ H _ v vl vu lo hi sl Q I rx hs pl pu ⟨_, _, rfl, h2, fun hz => ?_, fun _ => fin_tup hS (h3.cut lo hi) hc⟩
    rw [h3.length] at hz
    rw [cutD_all ds lo hi hz] at hc
    rename_i e1
    subst e1
    exact hc.here hS ha
  · split at hg
    · rename_i z e
      split at hg
      · rename_i hz
        cases hg
        cases (show Rp _ _ _ _ _ from ha) with
        | str _ ok => exact sl_str pins s σ H _ v vl vu lo hi sl Q I rx hs pl pu ⟨_, rfl, by rw [← SZ_eq]; exact hz, fin_str I hS (strOk_sub ok fun c hc' => by
              have h1 : c ∈ cutD z.cps.toList lo hi := by
                have h0 : c ∈ ((cutD z.cps.toList lo hi).toArray).toList := hc'
                rwa [List.toList_toArray] at h0
              exact List.mem_of_mem_drop (List.mem_of_mem_take h1)) hc⟩
      · cases hg
    · cases hg

/-! ### built-in functions -/
def dInt : PyData → Option PyData
  | .int i => some (.int i)
  | .bool b => some (.int (if b then 1 else 0))
  | _ => none
def arg1 (g : G1) : GL := fun vs S => match vs with
  | [a] => g a S
  | _ => .bad
def arg2 (g : G2) : GL := fun vs S => match vs with
  | [a, b] => g a b S
  | _ => .bad
theorem VrL.one {vs : List Vl} {xs : List V} {v : Vl} (h : VrL K H ρ xs vs) (e : vs = [v]) : ∃ x, xs = [x] ∧ Vr K H ρ x v := by
  subst e
  cases h with
  | cons a b =>
    cases b
    exact ⟨_, rfl, a⟩
theorem VrL.two {vs : List Vl} {xs : List V} {v w : Vl} (h : VrL K H ρ xs vs) (e : vs = [v, w]) : ∃ x y, xs = [x, y] ∧ Vr K H ρ x v ∧ Vr K H ρ y w := by
  subst e
  cases h with
  | cons a b =>
    cases b with
    | cons c d =>
      cases d
      exact ⟨_, _, rfl, a, c⟩
theorem rDL1 {g : G1} {xs : List V} (h : rDL K (arg1 g) xs H Q) : ∃ x ρ S va r S', xs = [x] ∧ StR K ρ S H ∧ Vr K H ρ x va ∧ g va S = .ok r S' ∧ Cont K ρ H S' r Q := by
  obtain ⟨ρ, S, vs, r, S', hS, hv, hg, hc⟩ := h
  unfold arg1 at hg
  split at hg
  · obtain ⟨x, rfl, hx⟩ := hv.one rfl
    exact ⟨x, ρ, S, _, r, S', rfl, hS, hx, hg, hc⟩
  · cases hg
theorem rDL2 {g : G2} {xs : List V} (h : rDL K (arg2 g) xs H Q) : ∃ x y ρ S va vb r S', xs = [x, y] ∧ StR K ρ S H ∧ Vr K H ρ x va ∧ Vr K H ρ y vb ∧ g va vb S = .ok r S' ∧ Cont K ρ H S' r Q := by
  obtain ⟨ρ, S, vs, r, S', hS, hv, hg, hc⟩ := h
  unfold arg2 at hg
  split at hg
  · obtain ⟨x, y, rfl, hx, hy⟩ := hv.two rfl
    exact ⟨x, y, ρ, S, _, _, r, S', rfl, hS, hx, hy, hg, hc⟩
  · cases hg
def gLen : G1 := fun a S => match sqOf S a with
  | some (.l ds) => .ok (.d (.int ds.length)) S
  | some (.t ds) => .ok (.d (.int ds.length)) S
  | none => match dcV S a with
    | some kds => if kds.length ≤ SZ then .ok (.d (.int kds.length)) S else .bad
    | none => match a with
      | .d (.str z) => if z.length ≤ SZ then .ok (.d (.int z.length)) S else .bad
      | _ => .bad
theorem cd_len : CallR X (.builtin "len") (rDL X.F (arg1 gLen)) := by
  intro pins s σ H xs us Q I rx h
  obtain ⟨x, ρ, S, va, r, S', rfl, hS, ha, hg, hc⟩ := rDL1 h
  unfold gLen at hg
  split at hg
  · rename_i ds e
    cases hg
    obtain ⟨a, xs, rfl, h2, h3⟩ := sq_l hS ha e
    refine call_len_seq pins s σ H _ us Q I rx ⟨_, _, rfl, .inl h2, ?_⟩
    rw [h3.length]
    exact hc.here hS (show Rp _ _ _ _ _ from .int _)
  · rename_i ds e
    cases hg
    obtain ⟨_, a, xs, rfl, h2, h3⟩ := sq_t ha e
    refine call_len_seq pins s σ H _ us Q I rx ⟨_, _, rfl, .inr h2, ?_⟩
    rw [h3.length]
    exact hc.here hS (show Rp _ _ _ _ _ from .int _)
  · split at hg
    · rename_i kds e
      split at hg
      · rename_i hz
        cases hg
        obtain ⟨a, rfl, D⟩ := dc_rp hS ha e
        obtain ⟨u, rfl, ru⟩ := vals1 rx
        cases ru
        exact dd_len I D (by rw [← SZ_eq]; exact hz) fun t s' I' => ⟨.int _, H, I', ⟨t, rfl⟩, hc.here hS (show Rp _ _ _ _ _ from .int _)⟩
      · cases hg
    split at hg
    · split at hg
      · rename_i hz
        cases hg
        cases (show Rp _ _ _ _ _ from ha) with
        | str _ ok => exact call_len_str pins s σ H _ us Q I rx ⟨_, rfl, by rw [← SZ_eq]; exact hz, hc.here hS (show Rp _ _ _ _ _ from .int _)⟩
      · cases hg
    · cases hg
theorem cd_int : CallR X (.type "int") (rDL X.F (arg1 (dat1 dInt))) := by
  intro pins s σ H xs us Q I rx h
  obtain ⟨x, ρ, S, va, r, S', rfl, hS, ha, hg, hc⟩ := rDL1 h
  obtain ⟨a, c, rfl, hd, rfl, rfl⟩ := dat1_ok hg
  unfold dInt at hd
  split at hd
  · cases hd
    cases (show Rp _ _ _ _ _ from ha)
    exact call_int1 pins s σ H _ us Q I rx (.inl ⟨_, rfl, hc.here hS (show Rp _ _ _ _ _ from .int _)⟩)
  · cases hd
    cases (show Rp _ _ _ _ _ from ha)
    exact call_int1 pins s σ H _ us Q I rx (.inr ⟨_, rfl, hc.here hS (show Rp _ _ _ _ _ from .int _)⟩)
  · cases hd
def dAbs : PyData → Option PyData
  | .int i => some (.int (if i < 0 then -i else i))
  | _ => none
theorem cd_abs : CallR X (.builtin "abs") (rDL X.F (arg1 (dat1 dAbs))) := by
  intro pins s σ H xs us Q I rx h
  obtain ⟨x, ρ, S, va, r, S', rfl, hS, ha, hg, hc⟩ := rDL1 h
  obtain ⟨a, c, rfl, hd, rfl, rfl⟩ := dat1_ok hg
  unfold dAbs at hd
  split at hd
  · cases hd
    cases (show Rp _ _ _ _ _ from ha)
    exact call_abs pins s σ H _ us Q I rx ⟨_, rfl, hc.here hS (show Rp _ _ _ _ _ from .int _)⟩
  · cases hd
def dMax : PyData → PyData → Option PyData
  | .int i, .int j => some (.int (if j > i then j else i))
  | _, _ => none
def dMin : PyData → PyData → Option PyData
  | .int i, .int j => some (.int (if j < i then j else i))
  | _, _ => none
theorem cd_max (hc : X.calm = true) : CallR X (.builtin "max") (rDL X.F (arg2 (dat2 dMax))) := by
  intro pins s σ H xs us Q I rx h
  obtain ⟨x, y, ρ, S, va, vb, r, S', rfl, hS, ha, hb, hg, hc'⟩ := rDL2 h
  obtain ⟨a, b, c, rfl, rfl, hd, rfl, rfl⟩ := dat2_ok hg
  unfold dMax at hd
  split at hd
  · cases hd
    cases (show Rp _ _ _ _ _ from ha)
    cases (show Rp _ _ _ _ _ from hb)
    exact call_max2 hc pins s σ H _ us Q I rx ⟨_, _, rfl, hc'.here hS (show Rp _ _ _ _ _ from .int _)⟩
  · cases hd
theorem cd_min (hc : X.calm = true) : CallR X (.builtin "min") (rDL X.F (arg2 (dat2 dMin))) := by
  intro pins s σ H xs us Q I rx h
  obtain ⟨x, y, ρ, S, va, vb, r, S', rfl, hS, ha, hb, hg, hc'⟩ := rDL2 h
  obtain ⟨a, b, c, rfl, rfl, hd, rfl, rfl⟩ := dat2_ok hg
  unfold dMin at hd
  split at hd
  · cases hd
    cases (show Rp _ _ _ _ _ from ha)
    cases (show Rp _ _ _ _ _ from hb)
    exact call_min2 hc pins s σ H _ us Q I rx ⟨_, _, rfl, hc'.here hS (show Rp _ _ _ _ _ from .int _)⟩
  · cases hd
theorem strOk_of (x : String) : PySem.PyData.strOk (Str.ofString x) = true := by
  rw [strOk_iff, Str.ofString_eq_toList]
  intro c hc
  simp only [List.mem_map] at hc
  obtain ⟨a, _, rfl⟩ := hc
  have h := a.valid
  rcases h with h | h
  · exact Nat.lt_trans (show a.toNat < 0xd800 from h) (by decide)
  · exact h.2
def dStr : PyData → Option PyData
  | .int i => if i.natAbs.log2 < 1920 then some (.str (toString i)) else none
  | _ => none
theorem cd_str : CallR X (.type "str") (rDL X.F (arg1 (dat1 dStr))) := by
  intro pins s σ H xs us Q I rx h
  obtain ⟨x, ρ, S, va, r, S', rfl, hS, ha, hg, hc⟩ := rDL1 h
  obtain ⟨a, c, rfl, hd, rfl, rfl⟩ := dat1_ok hg
  unfold dStr at hd
  split at hd
  · split at hd
    · rename_i hz
      cases hd
      cases (show Rp _ _ _ _ _ from ha)
      exact call_str_int pins s σ H _ us Q I rx ⟨_, rfl, hz, fin_str I hS (strOk_of _) hc⟩
    · cases hd
  · cases hd
def dOrd : PyData → Option PyData
  | .str x => if x.length = 1 then some (.int (x.cps.getD 0 0 : Nat)) else none
  | _ => none
theorem cd_ord : CallR X (.builtin "ord") (rDL X.F (arg1 (dat1 dOrd))) := by
  intro pins s σ H xs us Q I rx h
  obtain ⟨x, ρ, S, va, r, S', rfl, hS, ha, hg, hc⟩ := rDL1 h
  obtain ⟨a, c, rfl, hd, rfl, rfl⟩ := dat1_ok hg
  unfold dOrd at hd
  split at hd
  · split at hd
    · rename_i hz
      cases hd
      cases (show Rp _ _ _ _ _ from ha)
      exact call_ord pins s σ H _ us Q I rx ⟨_, rfl, hz, hc.here hS (show Rp _ _ _ _ _ from .int _)⟩
    · cases hd
  · cases hd
def gList : G1 := fun a S => match sqOf S a with
  | some (.l ds) => .ok (.d (.list ds)) S
  | some (.t ds) => .ok (.d (.list ds)) S
  | none => match dcV S a with
    | some kds => .ok (.d (.list (kds.map (·.1)))) S
    | none => .bad
theorem cd_list (hcalm : X.calm = true) : CallR X (.type "list") (rDL X.F (arg1 gList)) := by
  intro pins s σ H xs us Q I rx h
  obtain ⟨x, ρ, S, va, r, S', rfl, hS, ha, hg, hc⟩ := rDL1 h
  unfold gList at hg
  split at hg
  · rename_i ds e
    cases hg
    obtain ⟨a, xs, rfl, h2, h3⟩ := sq_l hS ha e
    exact call_list_of pins s σ H _ us Q I rx ⟨_, _, rfl, .inl h2, fin_lst hS h3 hc⟩
  · rename_i ds e
    cases hg
    obtain ⟨_, a, xs, rfl, h2, h3⟩ := sq_t ha e
    exact call_list_of pins s σ H _ us Q I rx ⟨_, _, rfl, .inr h2, fin_lst hS h3 hc⟩
  · split at hg
    · rename_i kds e
      cases hg
      obtain ⟨a, rfl, D⟩ := dc_rp hS ha e
      obtain ⟨u, rfl, ru⟩ := vals1 rx
      cases ru
      exact dd_list hcalm I D fun xs p q hp => fin_lst hS q hc p hp
    · cases hg
def gTuple : G1 := fun a S => match sqOf S a with
  | some (.l ds) => .ok (.d (.tuple ds)) S
  | some (.t ds) => .ok (.d (.tuple ds)) S
  | none => .bad
theorem cd_tuple : CallR X (.type "tuple") (rDL X.F (arg1 gTuple)) := by
  intro pins s σ H xs us Q I rx h
  obtain ⟨x, ρ, S, va, r, S', rfl, hS, ha, hg, hc⟩ := rDL1 h
  unfold gTuple at hg
  split at hg
  · rename_i ds e
    cases hg
    obtain ⟨a, xs, rfl, h2, h3⟩ := sq_l hS ha e
    exact call_tuple_of pins s σ H _ us Q I rx ⟨_, _, rfl, .inl ⟨h2, fin_tup hS h3 hc⟩⟩
  · rename_i ds e
    cases hg
    obtain ⟨e1, a, xs, rfl, h2, h3⟩ := sq_t ha e
    subst e1
    exact call_tuple_of pins s σ H _ us Q I rx ⟨_, _, rfl, .inr ⟨h2, hc.here hS ha⟩⟩
  · cases hg
/-- bools of a list -/
def boolsOf : List PyData → Option (List Bool)
  | [] => some []
  | .bool b :: r => (boolsOf r).map (b :: ·)
  | _ :: _ => none
theorem bools_rp {m : List Addr} : ∀ {ds : List PyData} {xs : List V} {bs : List Bool}, RpL K H m xs ds → boolsOf ds = some bs → xs = bs.map V.bl
  | [], _, _, h, e => by cases h; cases e; rfl
  | d :: ds, _, bs, h, e => by
    cases h with
    | cons a b =>
      cases d with
      | bool k =>
        obtain ⟨l, h1, h2⟩ := Option.map_eq_some_iff.mp (show (boolsOf ds).map (k :: ·) = some bs from e)
        subst h2
        cases a
        rw [bools_rp b h1]
        rfl
      | _ => cases e
def gAll : G1 := fun a S => match sqOf S a with
  | some (.l ds) => match boolsOf ds with
    | some bs => .ok (.d (.bool (bs.all id))) S
    | none => .bad
  | _ => .bad
def gAny : G1 := fun a S => match sqOf S a with
  | some (.l ds) => match boolsOf ds with
    | some bs => .ok (.d (.bool (bs.any id))) S
    | none => .bad
  | _ => .bad
theorem cd_all (hc : X.calm = true) : CallR X (.builtin "all") (rDL X.F (arg1 gAll)) := by
  intro pins s σ H xs us Q I rx h
  obtain ⟨x, ρ, S, va, r, S', rfl, hS, ha, hg, hc'⟩ := rDL1 h
  unfold gAll at hg
  split at hg
  · rename_i ds e
    split at hg
    · rename_i bs eb
      cases hg
      obtain ⟨a, xs, rfl, h2, h3⟩ := sq_l hS ha e
      have e3 := bools_rp h3 eb
      subst e3
      exact cr_all hc pins s σ H _ us Q I rx ⟨_, _, rfl, h2, hc'.here hS (show Rp _ _ _ _ _ from .bl _)⟩
    · cases hg
  · cases hg
theorem cd_any (hc : X.calm = true) : CallR X (.builtin "any") (rDL X.F (arg1 gAny)) := by
  intro pins s σ H xs us Q I rx h
  obtain ⟨x, ρ, S, va, r, S', rfl, hS, ha, hg, hc'⟩ := rDL1 h
  unfold gAny at hg
  split at hg
  · rename_i ds e
    split at hg
    · rename_i bs eb
      cases hg
      obtain ⟨a, xs, rfl, h2, h3⟩ := sq_l hS ha e
      have e3 := bools_rp h3 eb
      subst e3
      exact cr_any hc pins s σ H _ us Q I rx ⟨_, _, rfl, h2, hc'.here hS (show Rp _ _ _ _ _ from .bl _)⟩
    · cases hg
  · cases hg

/-! ### isinstance(x, T) -/
def tyName : PyData → Option String
  | .none => some "NoneType"
  | .bool _ => some "bool"
  | .int _ => some "int"
  | .str _ => some "str"
  | .list _ => some "list"
  | .tuple _ => some "tuple"
  | .dict _ => none
def isiB (a b : String) : Bool := a == b || (a == "bool" && b == "int")
def isiTs : List String := ["tuple", "str", "int", "bool", "list"]
theorem isi_ok {a b : String} (ha : a = "NoneType" ∨ a = "bool" ∨ a = "int" ∨ a = "str" ∨ a = "list" ∨ a = "tuple") (hb : b ∈ isiTs) : kitB a b = some (isiB a b) := by
  simp only [isiTs, List.mem_cons, List.mem_nil_iff, or_false] at hb
  rcases ha with rfl | rfl | rfl | rfl | rfl | rfl <;> rcases hb with rfl | rfl | rfl | rfl | rfl <;> decide +kernel
def gIsi (T : String) : G1 := fun a S => match a with
  | .d d => match tyName d with
    | some n => .ok (.d (.bool (isiB n T))) S
    | none => .bad
  | .o n => match S[n]? with
    | some (.lst _) => .ok (.d (.bool (isiB "list" T))) S
    | _ => .bad
  | _ => .bad
theorem ty_rp {m : List Addr} {d : PyData} {x : V} {n : String} (h : Rp K H m x d) (e : tyName d = some n) : TyX K.K H x (.type n) ∧ (n = "NoneType" ∨ n = "bool" ∨ n = "int" ∨ n = "str" ∨ n = "list" ∨ n = "tuple") := by
  cases h with
  | non => cases e; exact ⟨.base .non, by simp⟩
  | bl b => cases e; exact ⟨.base (.bl b), by simp⟩
  | int i => cases e; exact ⟨.base (.int i), by simp⟩
  | str x ok => cases e; exact ⟨.base (.str x), by simp⟩
  | lst ta qa => cases e; exact ⟨.base (.lst ta.1), by simp⟩
  | tup ta qa =>
    cases e
    refine ⟨?_, by simp⟩
    rcases ta with ⟨h | ⟨o, h⟩, _⟩ | ⟨o, its, n, h, c, _⟩
    · exact .base (.tup h)
    · exact .fTuple h
    · exact .kTuple h c
  | dct => cases e
theorem cd_isi {T : String} (hT : T ∈ isiTs) : CallR X (.builtin "isinstance") (fun xs H Q => ∃ x, xs = [x, .ty T] ∧ rD1 X.F (gIsi T) x H Q) := by
  intro pins s σ H xs us Q I rx h
  obtain ⟨x, rfl, ρ, S, va, r, S', hS, ha, hg, hc⟩ := h
  unfold gIsi at hg
  split at hg
  · split at hg
    · rename_i d n e
      cases hg
      obtain ⟨h1, h2⟩ := ty_rp ha e
      exact call_isi pins s σ H _ us Q I rx ⟨x, .ty T, _, _, _, rfl, .ty T, h1, kit_ty (isi_ok h2 hT), hc.here hS (show Rp _ _ _ _ _ from .bl _)⟩
    · cases hg
  · rename_i n
    split at hg
    · rename_i ds e
      cases hg
      obtain ⟨a, h1, rfl⟩ := ha
      obtain ⟨_, _, xs, h2, h3⟩ := hS.get h1 e
      exact call_isi pins s σ H _ us Q I rx ⟨_, .ty T, _, _, _, rfl, .ty T, .base (.lst h2), kit_ty (isi_ok (by simp) hT), hc.here hS (show Rp _ _ _ _ _ from .bl _)⟩
    · cases hg
  · cases hg

/-! ### truth -/
def truO : PyData → Option Bool
  | .none => some false
  | .bool b => some b
  | .int i => some (i != 0)
  | .str y => if y.length ≤ SZ then some (y.length != 0) else none
  | .list ds => some (!ds.isEmpty)
  | .tuple ds => some (!ds.isEmpty)
  | .dict _ => none
def gTru (v : Vl) (S : Sto) : Option Bool := match v with
  | .d d => truO d
  | .o n => (lstOf S n).map fun ds => !ds.isEmpty
  | .k ds => some (!ds.isEmpty)
  | .x _ _ => none
theorem RpL.empty {m : List Addr} {ds : List PyData} {xs : List V} (h : RpL K H m xs ds) : xs.isEmpty = ds.isEmpty := by
  cases h <;> rfl
theorem tru_rp (hS : StR K ρ S H) {v : Vl} {x : V} {b : Bool} (h : Vr K H ρ x v) (e : gTru v S = some b) : TruV K.K x H b := by
  cases v with
  | d d =>
    have h : Rp K H ρ.m x d := h
    have e : truO d = some b := e
    cases h with
    | non => cases e; rfl
    | bl b => cases e; rfl
    | int i => cases e; rfl
    | str x ok =>
      have e : (if x.length ≤ SZ then some (x.length != 0) else none) = some b := e
      split at e
      · rename_i hz
        cases e
        refine ⟨by rw [← SZ_eq]; exact hz, ?_⟩
        rw [Bool.eq_iff_iff]
        simp
      · cases e
    | lst ta qa =>
      cases e
      exact .inl ⟨_, ta.sq, by rw [qa.empty]⟩
    | tup ta qa =>
      cases e
      exact .inr (.inl ⟨_, ta.sq, by rw [qa.empty]⟩)
    | dct => cases e
  | o n =>
    obtain ⟨ds, h1, rfl⟩ := Option.map_eq_some_iff.mp (show (lstOf S n).map _ = some b from e)
    obtain ⟨a, ha, rfl⟩ := h
    obtain ⟨xs, h3, h4⟩ := hS.lstAt ha h1
    exact .inl ⟨_, .of h3, by rw [h4.empty]⟩
  | k ds =>
    cases e
    obtain ⟨a, xs, rfl, h1, h2⟩ := h
    exact .inl ⟨_, h1.sq, by rw [h2.empty]⟩
  | x c fs => cases e
end
end L2.Pv

set_option Elab.async false
set_option linter.all false
set_option maxRecDepth 100000
namespace L2.Pv
open PySem PySem.Spec PyProof.Rows L2

/-! ### what the parts of a text mean -/
abbrev SE := Env → Sto → R Vl
abbrev ST := Env → Sto → R Bool
abbrev SA := Env → Sto → R (List Vl)
def sameR {α : Type} (_ : Hp) (_ : Pl) (x v : α) : Prop := x = v
def LE (K : Fx) (W : WX) (f : SE) : TE := fun σ H Q => ∃ Γ S ρ, StR K ρ S H ∧ EnR K H ρ σ Γ ∧ Pst K (WE W σ) (Vr K) ρ H (f Γ S) Q
def LT (K : Fx) (W : WX) (f : ST) : TT := fun σ H Q => ∃ Γ S ρ, StR K ρ S H ∧ EnR K H ρ σ Γ ∧ Pst K (WE W σ) sameR ρ H (f Γ S) Q
def LA (K : Fx) (W : WX) (f : SA) : TA := fun σ H Q => ∃ Γ S ρ, StR K ρ S H ∧ EnR K H ρ σ Γ ∧ Pst K (WE W σ) (VrL K) ρ H (f Γ S) Q

def sVar (i : Nat) : SE := fun Γ S => match Γ[i]? with
  | some (some v) => .ok v S
  | _ => .bad
def sCon (d : PyData) : SE := fun _ S => .ok (.d d) S
def sBin (g : G2) (a b : SE) : SE := fun Γ S => (a Γ S).bind fun x S1 => (b Γ S1).bind fun y S2 => g x y S2
def sUn (g : G1) (a : SE) : SE := fun Γ S => (a Γ S).bind fun x S1 => g x S1
def sArgs : List SE → SA
  | [] => fun _ S => .ok [] S
  | f :: fs => fun Γ S => (f Γ S).bind fun v S1 => (sArgs fs Γ S1).bind fun vs S2 => .ok (v :: vs) S2
def sCall (g : GL) (fs : List SE) : SE := fun Γ S => (sArgs fs Γ S).bind g
def datas : List Vl → Option (List PyData)
  | [] => some []
  | .d d :: r => (datas r).map (d :: ·)
  | _ :: _ => none
def gTup : GL := fun vs S => match datas vs with
  | some ds => if ds.length ≤ SZ then .ok (.d (.tuple ds)) S else .bad
  | none => .bad
def gLst : GL := fun vs S => match datas vs with
  | some ds => if ds.length ≤ SZ then .ok (.d (.list ds)) S else .bad
  | none => .bad
/-- a list that will change -/
def gNew : GL := fun vs S => match datas vs with
  | some ds => if ds.length ≤ SZ then .ok (.o S.length) (S ++ [.lst ds]) else .bad
  | none => .bad
def boolOf : Vl → Option Bool
  | .d (.bool b) => some b
  | _ => none
def sTst (a : SE) : ST := fun Γ S => (a Γ S).bind fun v S1 => match boolOf v with
  | some b => .ok b S1
  | none => .bad
def sTru (a : SE) : ST := fun Γ S => (a Γ S).bind fun v S1 => match gTru v S1 with
  | some b => .ok b S1
  | none => .bad
def sNot (a : ST) : ST := fun Γ S => (a Γ S).bind fun b S1 => .ok (!b) S1
def sAnd (a b : ST) : ST := fun Γ S => (a Γ S).bind fun x S1 => if x = true then b Γ S1 else .ok false S1
def sOr (a b : ST) : ST := fun Γ S => (a Γ S).bind fun x S1 => if x = true then .ok true S1 else b Γ S1
def sVal (a : ST) : SE := fun Γ S => (a Γ S).bind fun b S1 => .ok (.d (.bool b)) S1
def sIf (c : ST) (a b : SE) : SE := fun Γ S => (c Γ S).bind fun x S1 => if x = true then a Γ S1 else b Γ S1
def intOf : Vl → Option Int
  | .d (.int i) => some i
  | _ => none
def sPart : Option SE → Env → Sto → R (Option Int)
  | none => fun _ S => .ok none S
  | some f => fun Γ S => (f Γ S).bind fun v S1 => match intOf v with
    | some i => .ok (some i) S1
    | none => .bad
def sSl (a : SE) (lo hi : Option SE) : SE := fun Γ S => (a Γ S).bind fun x S1 => (sPart lo Γ S1).bind fun l S2 => (sPart hi Γ S2).bind fun h S3 => gSl x l h S3
def sMet (g : Vl → GL) (a : SE) (fs : List SE) : SE := fun Γ S => (a Γ S).bind fun x S1 => (sArgs fs Γ S1).bind fun vs S2 => g x vs S2

section
variable {X : Cx} {W : WX} {a b c : Expr} {fa fb : SE} {ta tb : ST} {pos : Pos} {σ : L2.St} {H : Hp} {Q : VK}
theorem _root_.L2.PE.weak {e : Expr} {t t' : TE} (h : PE X e t) (w : ∀ σ H Q, t' σ H Q → t σ H Q) : PE X e t' := ⟨fun pins s σ H Q I hq => h.run pins s σ H Q I (w _ _ _ hq)⟩
theorem _root_.L2.PT.weak {e : Expr} {t t' : TT} (h : PT X e t) (w : ∀ σ H Q, t' σ H Q → t σ H Q) : PT X e t' := ⟨fun pins s σ H Q I hq => h.run pins s σ H Q I (w _ _ _ hq)⟩
theorem _root_.L2.PW.weak {e : Expr} {t t' : TT} (h : PW X e t) (w : ∀ σ H Q, t' σ H Q → t σ H Q) : PW X e t' := ⟨fun u pins s σ H Q I hq => h.run u pins s σ H Q I (w _ _ _ hq)⟩
theorem _root_.L2.PA.weak {e : List Expr} {t t' : TA} (h : PA X e t) (w : ∀ σ H Q, t' σ H Q → t σ H Q) : PA X e t' := ⟨fun p pins s σ H Q I hq => h.run p pins s σ H Q I (w _ _ _ hq)⟩

theorem le_var {i : Nat} {x : Str} (hN : X.N[i]? = some x) (hv : Vis X.env.scope x) (hd : (x == ("__debug__" : Str)) = false) (hcd : (x == ("__classdict__" : Str)) = false) : PE X (.Name x pos) (LE X.F W (sVar i)) :=
  (pe_var hN hv hd hcd).weak fun σ H Q ⟨Γ, S, ρ, hS, hE, hp⟩ => by
    unfold sVar at hp
    split at hp
    · rename_i v e
      obtain ⟨x, h1, h2⟩ := hE.get e
      exact ⟨x, h1, hp ρ H x (Ext.refl hS) hS h2⟩
    · exact hp.elim
theorem le_con {e : Expr} {v : V} {d : PyData} (h : PE X e (tC v)) (r : ∀ H m, Rp X.F H m v d) : PE X e (LE X.F W (sCon d)) :=
  h.weak fun σ H Q ⟨Γ, S, ρ, hS, hE, hp⟩ => hp ρ H v (Ext.refl hS) hS (r H _)
theorem nx_ix : NX2 gIx := by
  intro a b S
  unfold gIx
  repeat' split
  all_goals first | exact nx_lft | trivial
/-- a chain of two -/
theorem le_two {K : Fx} {g : G2} (nx : NX2 g) {RR : V → V → Hp → VK → Prop} (hR : ∀ x y H Q, rD K g x y H Q → RR x y H Q) (h : LE K W (sBin g fa fb) σ H Q) : LE K W fa σ H fun x H1 => LE K W fb σ H1 fun y H2 => RR x y H2 Q := by
  obtain ⟨Γ, S, ρ, hS, hE, hp⟩ := h
  refine ⟨Γ, S, ρ, hS, hE, Pst.bind hp fun va S1 ρ1 H1 x _ x1 hS1 q1 hp => ?_⟩
  refine ⟨Γ, S1, ρ1, hS1, hE.ext x1, Pst.bind hp fun vb S2 ρ2 H2 y _ x2 hS2 q2 hp => ?_⟩
  obtain ⟨v, S', e, hc⟩ := hp.leaf (nx va vb S2)
  exact hR _ _ _ _ ⟨ρ2, S2, va, vb, v, S', hS2, q1.ext x2, q2, e, hc⟩
theorem le_bin {op : Operator} {g : G2} (nx : NX2 g) (ho : OpR X (binaryOp op) (rD X.F g)) (ha : PE X a (LE X.F W fa)) (hb : PE X b (LE X.F W fb)) : PE X (.BinOp a op b pos) (LE X.F W (sBin g fa fb)) :=
  (pe_op ho ha hb).weak fun σ H Q h => le_two nx (fun _ _ _ _ q => q) h
theorem le_cmp {op : CmpOp} {g : G2} (nx : NX2 g) (ho : OpR X (compareOp op) (rD X.F g)) (ha : PE X a (LE X.F W fa)) (hb : PE X b (LE X.F W fb)) (hm : behindInMarks op b = false) : PE X (.Compare a [op] [b] pos) (LE X.F W (sBin g fa fb)) :=
  (pe_cmpR ho ha hb hm).weak fun σ H Q h => le_two nx (fun _ _ _ _ q => q) h
theorem le_ix (hu : X.A.units + 64 < cLine) (ha : PE X a (LE X.F W fa)) (hb : PE X b (LE X.F W fb)) (hs : PlainIx b) : PE X (.Subscript a b pos) (LE X.F W (sBin gIx fa fb)) :=
  (pe_ix (ixd hu) ha hb hs).weak fun σ H Q h => le_two nx_ix (fun _ _ _ _ q => q) h
theorem le_one {K : Fx} {g : G1} (nx : NX1 g) {RR : V → Hp → VK → Prop} (hR : ∀ x H Q, rD1 K g x H Q → RR x H Q) (h : LE K W (sUn g fa) σ H Q) : LE K W fa σ H fun x H1 => RR x H1 Q := by
  obtain ⟨Γ, S, ρ, hS, hE, hp⟩ := h
  refine ⟨Γ, S, ρ, hS, hE, Pst.bind hp fun va S1 ρ1 H1 x _ x1 hS1 q1 hp => ?_⟩
  obtain ⟨v, S', e, hc⟩ := hp.leaf (nx va S1)
  exact hR _ _ _ ⟨ρ1, S1, va, v, S', hS1, q1, e, hc⟩
theorem le_un {op : UnaryOp} {g : G1} (nx : NX1 g) (ho : UnR X (unaryOp op) (rD1 X.F g)) (ha : PE X a (LE X.F W fa)) : PE X (.UnaryOp op a pos) (LE X.F W (sUn g fa)) :=
  (pe_un ho ha).weak fun σ H Q h => le_one nx (fun _ _ _ q => q) h
def dNeg : PyData → Option PyData
  | .int i => some (.int (-i))
  | _ => none
theorem und_neg : UnR X (unaryOp .USub) (rD1 X.F (dat1 dNeg)) := by
  intro pins s σ H x v Q I rx h
  obtain ⟨ρ, S, va, r, S', hS, ha, hg, hc⟩ := h
  obtain ⟨a, c, rfl, hd, rfl, rfl⟩ := dat1_ok hg
  unfold dNeg at hd
  split at hd
  · cases hd
    cases (show Rp _ _ _ _ _ from ha)
    exact un_neg pins s σ H _ v Q I rx ⟨_, rfl, hc.here hS (show Rp _ _ _ _ _ from .int _)⟩
  · cases hd
/-- is None -/
def gIsN (neg : Bool) : G2 := fun a b S => match b with
  | .d .none => match a with
    | .d .none => .ok (.d (.bool (!neg))) S
    | .d (.bool _) => .ok (.d (.bool neg)) S
    | .d (.int _) => .ok (.d (.bool neg)) S
    | .d (.str _) => .ok (.d (.bool neg)) S
    | .d (.list _) => .ok (.d (.bool neg)) S
    | .d (.tuple _) => .ok (.d (.bool neg)) S
    | .d (.dict _) => .ok (.d (.bool neg)) S
    | .o _ => .ok (.d (.bool neg)) S
    | _ => .bad
  | .d (.bool c) => match a with
    | .d (.bool b) => .ok (.d (.bool ((b == c) != neg))) S
    | _ => .bad
  | _ => .bad
theorem isN_val {K : Fx} {neg : Bool} {ρ : Pl} {S S' : Sto} {va vb r : Vl} {x y : V} (ha : Vr K H ρ x va) (hb : Vr K H ρ y vb) (h : gIsN neg va vb S = .ok r S') : (y = .non ∧ S' = S ∧ r = .d (.bool (decide (x = .non) != neg))) ∨ ∃ b c : Bool, x = .bl b ∧ y = .bl c ∧ S' = S ∧ r = .d (.bool ((b == c) != neg)) := by
  unfold gIsN at h
  split at h
  · cases (show Rp _ _ _ _ _ from hb)
    refine .inl ⟨rfl, ?_⟩
    split at h
    · cases (show Rp _ _ _ _ _ from ha)
      cases h
      cases neg <;> exact ⟨rfl, rfl⟩
    · cases (show Rp _ _ _ _ _ from ha)
      cases h
      cases neg <;> exact ⟨rfl, rfl⟩
    · cases (show Rp _ _ _ _ _ from ha)
      cases h
      cases neg <;> exact ⟨rfl, rfl⟩
    · cases (show Rp _ _ _ _ _ from ha)
      cases h
      cases neg <;> exact ⟨rfl, rfl⟩
    · cases (show Rp _ _ _ _ _ from ha)
      cases h
      cases neg <;> exact ⟨rfl, rfl⟩
    · cases (show Rp _ _ _ _ _ from ha)
      cases h
      cases neg <;> exact ⟨rfl, rfl⟩
    · cases (show Rp _ _ _ _ _ from ha)
      cases h
      cases neg <;> exact ⟨rfl, rfl⟩
    · obtain ⟨a, _, rfl⟩ := ha
      cases h
      cases neg <;> exact ⟨rfl, rfl⟩
    · cases h
  · cases (show Rp _ _ _ _ _ from hb)
    split at h
    · cases (show Rp _ _ _ _ _ from ha)
      cases h
      exact .inr ⟨_, _, rfl, rfl, rfl, rfl⟩
    · cases h
  · cases h
theorem opd_is : OpR X (compareOp .Is) (rD X.F (gIsN false)) := by
  intro pins s σ H x y v u Q I rx ry h
  obtain ⟨ρ, S, va, vb, r, S', hS, ha, hb, hg, hc⟩ := h
  rcases isN_val ha hb hg with ⟨e, rfl, rfl⟩ | ⟨b, c, rfl, rfl, rfl, rfl⟩
  · refine op_isN pins s σ H x y v u Q I rx ry ⟨e, ?_⟩
    have := hc.here hS (show Rp _ _ _ _ _ from .bl _)
    simpa using this
  · refine op_isBl pins s σ H _ _ v u Q I rx ry ⟨b, c, rfl, rfl, ?_⟩
    have := hc.here hS (show Rp _ _ _ _ _ from .bl _)
    cases b <;> cases c <;> exact this
theorem opd_isnot : OpR X (compareOp .IsNot) (rD X.F (gIsN true)) := by
  intro pins s σ H x y v u Q I rx ry h
  obtain ⟨ρ, S, va, vb, r, S', hS, ha, hb, hg, hc⟩ := h
  rcases isN_val ha hb hg with ⟨e, rfl, rfl⟩ | ⟨b, c, rfl, rfl, rfl, rfl⟩
  · refine op_notN pins s σ H x y v u Q I rx ry ⟨e, ?_⟩
    have := hc.here hS (show Rp _ _ _ _ _ from .bl _)
    simpa using this
  · refine op_notBl pins s σ H _ _ v u Q I rx ry ⟨b, c, rfl, rfl, ?_⟩
    have := hc.here hS (show Rp _ _ _ _ _ from .bl _)
    cases b <;> cases c <;> exact this

/-! ### arguments -/
theorem la_nil : PA X [] (LA X.F W (sArgs [])) := pa_nil.weak fun σ H Q ⟨Γ, S, ρ, hS, hE, hp⟩ => hp ρ H [] (Ext.refl hS) hS .nil
theorem la_cons {es : List Expr} {fs : List SE} (ha : PE X a (LE X.F W fa)) (hr : PA X es (LA X.F W (sArgs fs))) (hs : starEach (a :: es) X.env = (false, eval a X.env) :: starEach es X.env) : PA X (a :: es) (LA X.F W (sArgs (fa :: fs))) :=
  (pa_cons ha hr hs).weak fun σ H Q ⟨Γ, S, ρ, hS, hE, hp⟩ => by
    refine ⟨Γ, S, ρ, hS, hE, Pst.bind hp fun va S1 ρ1 H1 x _ x1 hS1 q1 hp => ?_⟩
    refine ⟨Γ, S1, ρ1, hS1, hE.ext x1, Pst.bind hp fun vs S2 ρ2 H2 xs _ x2 hS2 q2 hp => ?_⟩
    exact hp ρ2 H2 _ (Ext.refl hS2) hS2 (.cons (q1.ext x2) q2)
theorem le_args {K : Fx} {g : GL} (nx : NXL g) {fs : List SE} {RR : List V → Hp → VK → Prop} (hR : ∀ xs H Q, rDL K g xs H Q → RR xs H Q) (h : LE K W (sCall g fs) σ H Q) : LA K W (sArgs fs) σ H fun xs H1 => RR xs H1 Q := by
  obtain ⟨Γ, S, ρ, hS, hE, hp⟩ := h
  refine ⟨Γ, S, ρ, hS, hE, Pst.bind hp fun vs S1 ρ1 H1 xs _ x1 hS1 q1 hp => ?_⟩
  obtain ⟨v, S', e, hc⟩ := hp.leaf (nx vs S1)
  exact hR _ _ _ ⟨ρ1, S1, vs, v, S', hS1, q1, e, hc⟩
theorem datas_rp {K : Fx} {ρ : Pl} : ∀ {vs : List Vl} {xs : List V} {ds : List PyData}, VrL K H ρ xs vs → datas vs = some ds → RpL K H ρ.m xs ds
  | [], _, _, h, e => by
    cases h
    cases e
    exact .nil
  | v :: vs, _, ds, h, e => by
    cases h with
    | cons h1 h2 =>
      cases v with
      | d d =>
        obtain ⟨l, e1, e2⟩ := Option.map_eq_some_iff.mp (show (datas vs).map (d :: ·) = some ds from e)
        subst e2
        exact .cons h1 (datas_rp h2 e1)
      | o n => cases e
      | k l => cases e
      | x c l => cases e
theorem nx_tup : NXL gTup := by
  intro vs S
  unfold gTup
  split
  · split <;> trivial
  · trivial
theorem nx_lst : NXL gLst := by
  intro vs S
  unfold gLst
  split
  · split <;> trivial
  · trivial
theorem nx_new : NXL gNew := by
  intro vs S
  unfold gNew
  split
  · split <;> trivial
  · trivial
theorem nx_len : NX1 gLen := by
  intro a S
  unfold gLen
  repeat' split
  all_goals trivial
theorem nx_list : NX1 gList := by
  intro a S
  unfold gList
  repeat' split
  all_goals trivial
theorem nx_isi (T : String) : NX1 (gIsi T) := by
  intro a S
  unfold gIsi
  repeat' split
  all_goals trivial
theorem nx_sl {a : Vl} {l h : Option Int} {S : Sto} : NoX (gSl a l h S) := by
  unfold gSl
  repeat' split
  all_goals trivial
theorem nx_isN (neg : Bool) : NX2 (gIsN neg) := by
  intro a b S
  unfold gIsN
  repeat' split
  all_goals trivial
theorem nx_arg1 {g : G1} (h : NX1 g) : NXL (arg1 g) := by
  intro vs S
  unfold arg1
  split
  · exact h _ _
  · trivial
theorem nx_arg2 {g : G2} (h : NX2 g) : NXL (arg2 g) := by
  intro vs S
  unfold arg2
  split
  · exact h _ _ _
  · trivial
theorem nx_cmp2 (h : PyData → PyData → Option PyData) : NX2 (cmp2 h) := by
  intro a b S
  unfold cmp2
  repeat' split
  all_goals first | exact nx_lft | trivial
theorem le_tup {es : List Expr} {fs : List SE} {x1 : Nat} (h : PA X es (LA X.F W (sArgs fs))) : PE X (.Tuple es x1 pos) (LE X.F W (sCall gTup fs)) :=
  (pe_tup h).weak fun σ H Q hq => le_args nx_tup (RR := fun xs H1 Q => xs.length ≤ sizeLine ∧ ∀ p, H1 p = none → Q (.ref p) (upd H1 p (.tup xs))) (fun xs H Q ⟨ρ, S, vs, r, S', hS, hv, hg, hc⟩ => by
    unfold gTup at hg
    split at hg
    · rename_i ds e
      split at hg
      · rename_i hz
        cases hg
        have q := datas_rp hv e
        exact ⟨by rw [q.length, ← SZ_eq]; exact hz, fin_tup hS q hc⟩
      · cases hg
    · cases hg) hq
theorem le_lst {es : List Expr} {fs : List SE} (h : PA X es (LA X.F W (sArgs fs))) : PE X (.List es pos) (LE X.F W (sCall gLst fs)) :=
  (pe_lst h).weak fun σ H Q hq => le_args nx_lst (RR := fun xs H1 Q => xs.length ≤ sizeLine ∧ ∀ p, H1 p = none → Q (.ref p) (upd H1 p (.lst xs))) (fun xs H Q ⟨ρ, S, vs, r, S', hS, hv, hg, hc⟩ => by
    unfold gLst at hg
    split at hg
    · rename_i ds e
      split at hg
      · rename_i hz
        cases hg
        have q := datas_rp hv e
        exact ⟨by rw [q.length, ← SZ_eq]; exact hz, fin_lst hS q hc⟩
      · cases hg
    · cases hg) hq
theorem le_new {es : List Expr} {fs : List SE} (h : PA X es (LA X.F W (sArgs fs))) : PE X (.List es pos) (LE X.F W (sCall gNew fs)) :=
  (pe_lst h).weak fun σ H Q hq => le_args nx_new (RR := fun xs H1 Q => xs.length ≤ sizeLine ∧ ∀ p, H1 p = none → Q (.ref p) (upd H1 p (.lst xs))) (fun xs H Q ⟨ρ, S, vs, r, S', hS, hv, hg, hc⟩ => by
    unfold gNew at hg
    split at hg
    · rename_i ds e
      split at hg
      · rename_i hz
        cases hg
        have q := datas_rp hv e
        exact ⟨by rw [q.length, ← SZ_eq]; exact hz, fin_new hS q hc⟩
      · cases hg
    · cases hg) hq
/-- a built-in function -/
theorem le_callB {g : GL} (nx : NXL g) {id : String} {x : Str} {p : Pos} {es : List Expr} {fs : List SE} (hc : CallR X (.builtin id) (rDL X.F g)) (hg : Gl X x) (hm : X.mg x = none) (hv : bootBuiltins x = some (.builtin id)) (ha : PA X (a :: es) (LA X.F W (sArgs fs)))
    (hn : x ≠ "__name__") (hdb : (x == ("__debug__" : Str)) = false) (he : starEach (a :: es) X.env = (false, eval a X.env) :: starEach es X.env) (hpl : (backTo pos (starEach es X.env)).any (·.1) = false) : PE X (.Call (.Name x p) (a :: es) [] pos) (LE X.F W (sCall g fs)) :=
  (pe_callB hc hg hm hv ha hn hdb he hpl).weak fun σ H Q hq => le_args nx (fun _ _ _ q => q) hq
theorem le_callTy {g : GL} (nx : NXL g) {T : String} {x : Str} {p : Pos} {es : List Expr} {fs : List SE} (hc : CallR X (.type T) (rDL X.F g)) (hg : Gl X x) (hm : X.mg x = none) (hv : bootBuiltins x = some (.type T)) (ha : PA X (a :: es) (LA X.F W (sArgs fs)))
    (hn : x ≠ "__name__") (hdb : (x == ("__debug__" : Str)) = false) (he : starEach (a :: es) X.env = (false, eval a X.env) :: starEach es X.env) (hpl : (backTo pos (starEach es X.env)).any (·.1) = false) : PE X (.Call (.Name x p) (a :: es) [] pos) (LE X.F W (sCall g fs)) :=
  (pe_callTy hc hg hm hv ha hn hdb he hpl).weak fun σ H Q hq => le_args nx (fun _ _ _ q => q) hq
/-- what a def promises -/
def rDX (K : Fx) (g : GL) (E : XK) : List V → Hp → VK → Prop := fun xs H Q => ∃ ρ S vs, StR K ρ S H ∧ VrL K H ρ xs vs ∧ Pst K E (Vr K) ρ H (g vs S) Q
def SpD (K : Fx) (n : Nat) (g : GL) : Sp := fun vs H Q E => vs.length = n ∧ rDX K g E vs H Q
theorem len_args {K : Fx} : ∀ {fs : List SE} {Γ : Env} {S S' : Sto} {vs : List Vl}, sArgs fs Γ S = .ok vs S' → vs.length = fs.length
  | [], _, _, _, _, h => by cases h; rfl
  | f :: fs, _, _, _, _, h => by
    obtain ⟨va, S1, h1, h⟩ := R.bind_ok h
    obtain ⟨vs, S2, h2, h⟩ := R.bind_ok h
    cases h
    show _ + 1 = _ + 1
    rw [len_args (K := K) h2]
/-- a call's arguments -/
theorem call_le {K : Fx} {g : GL} {fs : List SE} (h : LE K W (sCall g fs) σ H Q) : LA K W (sArgs fs) σ H fun xs H1 => SpD K fs.length g xs H1 Q (WE W σ) := by
  obtain ⟨Γ, S, ρ, hS, hE, hp⟩ := h
  refine ⟨Γ, S, ρ, hS, hE, Pst.bind hp fun vs S1 ρ1 H1 xs e x1 hS1 q1 hp => ?_⟩
  exact ⟨by rw [Paired.length q1, len_args (K := K) e], ρ1, S1, vs, hS1, q1, hp⟩
theorem F_calm (h : X.calm = true) : X.F = ⟨⟨X.K, X.w⟩, X.mg, none⟩ := by
  show Fx.mk _ _ (if X.calm = true then none else _) = _
  rw [if_pos h]
theorem F_hot {p : Addr × Obj} (h : X.calm = false) (hp : X.pn.head? = some p) : X.F = ⟨⟨X.K, X.w⟩, X.mg, some (hxo p)⟩ := by
  show Fx.mk _ _ (if X.calm = true then none else _) = _
  rw [if_neg (by rw [h]; exact Bool.false_ne_true), hp]
  rfl
/-- what a def promises where an exception is handled: p, its object -/
structure FnHp (P : Program) (w : World) (K : PySem.W.Frag) (mg : Str → Option Value) (base : Heap) (CX : CXT) (k : Nat) (f : Addr) (fd : FuncData) (ps : List Str) (sp : Addr × Obj → Sp) : Prop where
  len : ∀ p vs H Q E, sp p vs H Q E → vs.length = ps.length
  run : ∀ (A : Around) (outer : List PySem.Env) (s : Shared) (H : Hp) (args : Args) (us : List Value) (vs : List V) (Q : VK) (E : XK) (p : Addr × Obj), L2H.RoomH k A → L2H.Hot1 A p → L2H.PinOk outer H s p → Env0 P w K mg base A outer s H → BindsTo s fd args (ps.zip us) → Vals vs us → sp p vs H Q E →
    codeAny (model P w) A (.call (.ref f) args) (CR CX outer P w H s Q E) s
/-- a def that may be called: while nothing is handled, or while an exception is -/
def FnX (hot : Bool) (P : Program) (w : World) (K : PySem.W.Frag) (mg : Str → Option Value) (base : Heap) (k : Nat) (f : Addr) (fd : FuncData) (ps : List Str) (n : Nat) (g : GL) : Prop :=
  if hot = true then FnHp P w K mg base (L2N.CX P w) k f fd ps (fun p => SpD ⟨⟨K, w⟩, mg, some (hxo p)⟩ n g) else FnOk P w K mg base (L2N.CX P w) k f fd ps (SpD ⟨⟨K, w⟩, mg, none⟩ n g)
/-- the context: is an exception handled here -/
structure HotOk (hot : Bool) (X : Cx) (k : Nat) : Prop where
  cool : hot = false → X.calm = true ∧ X.A.handled = none
  warm : hot = true → X.calm = false ∧ ∃ p, X.pn.head? = some p ∧ L2H.Hot1 X.A p
  room : L2H.RoomH k X.A
theorem HotOk.room0 {k : Nat} (h : HotOk false X k) : Room k X.A := ⟨(h.cool rfl).2, h.room.dp, h.room.un⟩
/-- a call as such, with the values told -/
theorem run_fnX {hot : Bool} {k n : Nat} {f : Addr} {fd : FuncData} {ps : List Str} {g : GL} {dvs : List V} {ds : List Value} (F : FnX hot X.prog X.w X.K X.mg X.base k f fd ps n g) (hh : HotOk hot X k) (tk : L2N.Takes X W) (hb : Binds X.K fd ps ds) (hd : Vals dvs ds)
    {pins : List (Addr × Obj)} {σ : L2.St} {H : Hp} {s : Shared} {Q : VK} {us : List Value} {vs : List V} (I : Inv X pins σ H s) (r : Vals vs us) (h : SpD X.F n g (vs ++ dvs) H Q (WE W σ)) : wpAny (model X.prog X.w) X.A (call (.ref f) us) (EP X pins σ Q) X.xe s := by
  cases hot with
  | false =>
    have F : FnOk X.prog X.w X.K X.mg X.base (L2N.CX X.prog X.w) k f fd ps (SpD ⟨⟨X.K, X.w⟩, X.mg, none⟩ n g) := F
    rw [F_calm (hh.cool rfl).1] at h
    exact run_fnSD (E := WE W) F hh.room0 hb hd (L2N.passAt tk σ) I r h
  | true =>
    have F : FnHp X.prog X.w X.K X.mg X.base (L2N.CX X.prog X.w) k f fd ps (fun p => SpD ⟨⟨X.K, X.w⟩, X.mg, some (hxo p)⟩ n g) := F
    obtain ⟨hc, p, hp, hot⟩ := hh.warm rfl
    rw [F_hot hc hp] at h
    have r2 : Vals (vs ++ dvs) (us ++ ds) := r.append hd
    have hl : (us ++ ds).length = ps.length := by rw [← r2.length]; exact F.len _ _ _ _ _ h
    have hpm : p ∈ X.pn := List.mem_of_mem_head? hp
    have P1 := I.pin p (List.mem_append_left _ hpm)
    have hpin : L2H.PinOk X.stack H s p := ⟨P1.1, P1.2.1, fun hm => (List.mem_cons.mp (I.stkSub p.1 hm)).elim P1.2.2.1 P1.2.2.2.1, P1.2.2.2.2⟩
    refine wpAny_call (codeAny_mono (F.run X.A X.stack s H ⟨us, []⟩ (us ++ ds) (vs ++ dvs) Q (WE W σ) p hh.room hot hpin I.env0 (hb s us I.kIn hl) r2 h) fun r s' hq => ?_)
    cases r with
    | error e => exact L2N.passAt tk σ pins H s e s' I hq
    | ok fl =>
      cases fl with
      | ret u => exact I.after hq
      | next => exact False.elim hq
      | brk => exact False.elim hq
      | cont => exact False.elim hq
theorem le_call {hot : Bool} {k : Nat} {f : Addr} {fd : FuncData} {ps : List Str} {g : GL} {x : Str} {p : Pos} {es : List Expr} {fs : List SE} (F : FnX hot X.prog X.w X.K X.mg X.base k f fd ps fs.length g) (hh : HotOk hot X k) (tk : L2N.Takes X W) (hg : Gl X x) (hm : X.mg x = some (.ref f)) (hk : PySem.W.keepIn X.K (.ref f) = true) (hb : Binds X.K fd ps [])
    (ha : PA X (a :: es) (LA X.F W (sArgs fs))) (hdb : (x == ("__debug__" : Str)) = false) (he : starEach (a :: es) X.env = (false, eval a X.env) :: starEach es X.env) (hpl : (backTo pos (starEach es X.env)).any (·.1) = false) :
    PE X (.Call (.Name x p) (a :: es) [] pos) (LE X.F W (sCall g fs)) := by
  refine ⟨fun pins s σ H Q I h => ?_⟩
  refine wpAny_Call_Name_kw (ld_glob I hg hm ?_ hdb)
  refine PySem.W.callWith_K (h₀ := X.base) I.ok.mod.kin hk (thn (ha.run pos pins s σ H _ I (call_le h)) fun us s1 ⟨vs, H1, I1, r, q⟩ => ⟨I1.kIn, ?_⟩) he hpl
  exact run_fnX F hh tk hb .nil I1 r (by rw [List.append_nil]; exact q)
theorem le_call0 {hot : Bool} {k : Nat} {f : Addr} {fd : FuncData} {ps : List Str} {g : GL} {x : Str} {p : Pos} (F : FnX hot X.prog X.w X.K X.mg X.base k f fd ps 0 g) (hh : HotOk hot X k) (tk : L2N.Takes X W) (hg : Gl X x) (hm : X.mg x = some (.ref f)) (hk : PySem.W.keepIn X.K (.ref f) = true) (hb : Binds X.K fd ps [])
    (hdb : (x == ("__debug__" : Str)) = false) : PE X (.Call (.Name x p) [] [] pos) (LE X.F W (sCall g [])) := by
  refine ⟨fun pins s σ H Q I h => ?_⟩
  refine wpAny_Call_Name_kw (ld_glob I hg hm ?_ hdb)
  refine PySem.W.callWith_K0 I.kIn hk (run_fnX (us := []) (vs := []) F hh tk hb .nil I .nil ?_)
  obtain ⟨Γ, S, ρ, hS, hE, hp⟩ := h
  exact ⟨rfl, ρ, S, [], hS, .nil, hp⟩
/-- isinstance(e, T) -/
theorem le_isi {T : String} {x : Str} {p p2 : Pos} (hT : T ∈ isiTs) (hg : Gl X "isinstance") (hm : X.mg "isinstance" = none) (ha : PE X a (LE X.F W fa)) (hgT : Gl X x) (hmT : X.mg x = none) (hvT : bootBuiltins x = some (.type T)) (hn : x ≠ "__name__") (hdT : (x == ("__debug__" : Str)) = false)
    (he : starEach [a, .Name x p2] X.env = (false, eval a X.env) :: starEach [.Name x p2] X.env) : PE X (.Call (.Name "isinstance" p) [a, .Name x p2] [] pos) (LE X.F W (sUn (gIsi T) fa)) :=
  (pe_callB (cd_isi hT) hg hm (by decide +kernel) (pa_cons ha (pa_cons (pe_bltn (v := .ty T) hgT hmT hvT rfl hn hdT) pa_nil rfl) he) (by decide) (by decide) he (by rfl)).weak fun σ H Q hq =>
    le_one (nx_isi T) (RR := fun x H1 Q => ∃ y, [x, .ty T] = [y, .ty T] ∧ rD1 X.F (gIsi T) y H1 Q) (fun x H Q q => ⟨x, rfl, q⟩) hq

/-! ### tests -/
theorem lt_val (ha : PE X a (LE X.F W fa)) (he : ∀ whole, isTrue a X.env whole = (do let v ← whole; standAt a.pos; holding [v] (truthy v))) : PT X a (LT X.F W (sTru fa)) :=
  (pt_truth ha he).weak fun σ H Q ⟨Γ, S, ρ, hS, hE, hp⟩ => by
    refine ⟨Γ, S, ρ, hS, hE, Pst.bind hp fun va S1 ρ1 H1 x _ x1 hS1 q1 hp => ?_⟩
    split at hp
    · rename_i b e
      exact ⟨_, tru_rp hS1 q1 e, hp ρ1 H1 b (Ext.refl hS1) hS1 rfl⟩
    · exact hp.elim
theorem tst_of {K : Fx} {Q : Bool → Hp → Prop} {fa : SE} (h : LT K W (sTst fa) σ H Q) : LE K W fa σ H fun x H1 => ∃ k, x = .bl k ∧ Q k H1 := by
  obtain ⟨Γ, S, ρ, hS, hE, hp⟩ := h
  refine ⟨Γ, S, ρ, hS, hE, Pst.bind hp fun va S1 ρ1 H1 x _ x1 hS1 q1 hp => ?_⟩
  split at hp
  · rename_i b e
    unfold boolOf at e
    split at e
    · cases e
      cases (show Rp _ _ _ _ _ from q1)
      exact ⟨_, rfl, hp ρ1 H1 _ (Ext.refl hS1) hS1 rfl⟩
    · cases e
  · exact hp.elim
theorem lt_cmp {op : CmpOp} {g : G2} (nx : NX2 g) (ho : OpR X (compareOp op) (rD X.F g)) (ha : PE X a (LE X.F W fa)) (hb : PE X b (LE X.F W fb)) (hm : behindInMarks op b = false) : PT X (.Compare a [op] [b] pos) (LT X.F W (sTst (sBin g fa fb))) :=
  (pt_cmpR ho ha hb hm).weak fun σ H Q h => le_two nx (fun _ _ _ _ q => q) (tst_of h)
theorem lt_not (ha : PT X a (LT X.F W ta)) : PT X (.UnaryOp .Not a pos) (LT X.F W (sNot ta)) :=
  (pt_not ha).weak fun σ H Q ⟨Γ, S, ρ, hS, hE, hp⟩ => ⟨Γ, S, ρ, hS, hE, Pst.bind hp fun va S1 ρ1 H1 x _ x1 hS1 q1 hp => by
    cases q1
    exact hp ρ1 H1 _ (Ext.refl hS1) hS1 rfl⟩
theorem lw_and1 (ha : PT X a (LT X.F W ta)) : PW X (.BoolOp .And [a] pos) (LT X.F W ta) := pw_and1 ha
theorem lw_or1 (ha : PT X a (LT X.F W ta)) : PW X (.BoolOp .Or [a] pos) (LT X.F W ta) := pw_or1 ha
theorem lw_and {rest : List Expr} (ha : PT X a (LT X.F W ta)) (hb : PW X (.BoolOp .And (b :: rest) pos) (LT X.F W tb)) : PW X (.BoolOp .And (a :: b :: rest) pos) (LT X.F W (sAnd ta tb)) :=
  (pw_and ha hb).weak fun σ H Q ⟨Γ, S, ρ, hS, hE, hp⟩ => by
    refine ⟨Γ, S, ρ, hS, hE, Pst.bind hp fun va S1 ρ1 H1 x _ x1 hS1 q1 hp => ?_⟩
    cases q1
    split at hp
    · rename_i e
      rw [if_pos e]
      exact ⟨Γ, S1, ρ1, hS1, hE.ext x1, hp⟩
    · rename_i e
      rw [if_neg e]
      exact hp ρ1 H1 _ (Ext.refl hS1) hS1 rfl
theorem lw_or {rest : List Expr} (ha : PT X a (LT X.F W ta)) (hb : PW X (.BoolOp .Or (b :: rest) pos) (LT X.F W tb)) : PW X (.BoolOp .Or (a :: b :: rest) pos) (LT X.F W (sOr ta tb)) :=
  (pw_or ha hb).weak fun σ H Q ⟨Γ, S, ρ, hS, hE, hp⟩ => by
    refine ⟨Γ, S, ρ, hS, hE, Pst.bind hp fun va S1 ρ1 H1 x _ x1 hS1 q1 hp => ?_⟩
    cases q1
    split at hp
    · rename_i e
      rw [if_pos e]
      exact hp ρ1 H1 _ (Ext.refl hS1) hS1 rfl
    · rename_i e
      rw [if_neg e]
      exact ⟨Γ, S1, ρ1, hS1, hE.ext x1, hp⟩
/-! ### and, or, not, if as values -/
theorem val_of {K : Fx} {fa : ST} (h : LE K W (sVal fa) σ H Q) : LT K W fa σ H fun b H1 => Q (.bl b) H1 := by
  obtain ⟨Γ, S, ρ, hS, hE, hp⟩ := h
  exact ⟨Γ, S, ρ, hS, hE, Pst.bind hp fun va S1 ρ1 H1 x _ x1 hS1 q1 hp => by
    cases q1
    exact hp ρ1 H1 _ (Ext.refl hS1) hS1 (show Rp _ _ _ _ _ from .bl _)⟩
def sAndV (a b : SE) : SE := fun Γ S => (a Γ S).bind fun x S1 => match boolOf x with
  | some true => b Γ S1
  | some false => .ok (.d (.bool false)) S1
  | none => .bad
def sOrV (a b : SE) : SE := fun Γ S => (a Γ S).bind fun x S1 => match boolOf x with
  | some true => .ok (.d (.bool true)) S1
  | some false => b Γ S1
  | none => .bad
def sNotV (a : SE) : SE := fun Γ S => (a Γ S).bind fun x S1 => match boolOf x with
  | some k => .ok (.d (.bool (!k))) S1
  | none => .bad
theorem boolOf_rp {K : Fx} {ρ : Pl} {x : V} {v : Vl} {k : Bool} (h : Vr K H ρ x v) (e : boolOf v = some k) : x = .bl k := by
  unfold boolOf at e
  split at e
  · cases e
    cases (show Rp _ _ _ _ _ from h)
    rfl
  · cases e
theorem le_oneV {op : BoolOp} (h : PE X a (LE X.F W fa)) : PE X (.BoolOp op [a] pos) (LE X.F W fa) := pe_one h
theorem le_andV {rest : List Expr} (ha : PE X a (LE X.F W fa)) (hb : PE X (.BoolOp .And (b :: rest) pos) (LE X.F W fb)) : PE X (.BoolOp .And (a :: b :: rest) pos) (LE X.F W (sAndV fa fb)) :=
  (pe_and ha hb).weak fun σ H Q ⟨Γ, S, ρ, hS, hE, hp⟩ => by
    refine ⟨Γ, S, ρ, hS, hE, Pst.bind hp fun va S1 ρ1 H1 x _ x1 hS1 q1 hp => ?_⟩
    split at hp
    · rename_i e
      refine ⟨true, boolOf_rp q1 e, ?_⟩
      rw [if_pos rfl]
      exact ⟨Γ, S1, ρ1, hS1, hE.ext x1, hp⟩
    · rename_i e
      refine ⟨false, boolOf_rp q1 e, ?_⟩
      rw [if_neg Bool.false_ne_true]
      exact hp ρ1 H1 _ (Ext.refl hS1) hS1 (show Rp _ _ _ _ _ from .bl _)
    · exact hp.elim
theorem le_orV {rest : List Expr} (ha : PE X a (LE X.F W fa)) (hb : PE X (.BoolOp .Or (b :: rest) pos) (LE X.F W fb)) : PE X (.BoolOp .Or (a :: b :: rest) pos) (LE X.F W (sOrV fa fb)) :=
  (pe_or ha hb).weak fun σ H Q ⟨Γ, S, ρ, hS, hE, hp⟩ => by
    refine ⟨Γ, S, ρ, hS, hE, Pst.bind hp fun va S1 ρ1 H1 x _ x1 hS1 q1 hp => ?_⟩
    split at hp
    · rename_i e
      refine ⟨true, boolOf_rp q1 e, ?_⟩
      rw [if_pos rfl]
      exact hp ρ1 H1 _ (Ext.refl hS1) hS1 (show Rp _ _ _ _ _ from .bl _)
    · rename_i e
      refine ⟨false, boolOf_rp q1 e, ?_⟩
      rw [if_neg Bool.false_ne_true]
      exact ⟨Γ, S1, ρ1, hS1, hE.ext x1, hp⟩
    · exact hp.elim
theorem le_notV (ha : PE X a (LE X.F W fa)) : PE X (.UnaryOp .Not a pos) (LE X.F W (sNotV fa)) :=
  (pe_not ha).weak fun σ H Q ⟨Γ, S, ρ, hS, hE, hp⟩ => by
    refine ⟨Γ, S, ρ, hS, hE, Pst.bind hp fun va S1 ρ1 H1 x _ x1 hS1 q1 hp => ?_⟩
    split at hp
    · rename_i k e
      exact ⟨k, boolOf_rp q1 e, hp ρ1 H1 _ (Ext.refl hS1) hS1 (show Rp _ _ _ _ _ from .bl _)⟩
    · exact hp.elim
theorem le_ifExp (hc : PT X c (LT X.F W ta)) (ha : PE X a (LE X.F W fa)) (hb : PE X b (LE X.F W fb)) : PE X (.IfExp c a b pos) (LE X.F W (sIf ta fa fb)) :=
  (pe_ifExp hc ha hb).weak fun σ H Q ⟨Γ, S, ρ, hS, hE, hp⟩ => by
    refine ⟨Γ, S, ρ, hS, hE, Pst.bind hp fun va S1 ρ1 H1 x _ x1 hS1 q1 hp => ?_⟩
    cases q1
    split at hp
    · rename_i e
      rw [if_pos e]
      exact ⟨Γ, S1, ρ1, hS1, hE.ext x1, hp⟩
    · rename_i e
      rw [if_neg e]
      exact ⟨Γ, S1, ρ1, hS1, hE.ext x1, hp⟩

/-! ### slices -/
def LO (K : Fx) (W : WX) (f : Option SE) : TO := fun σ H Q => ∃ Γ S ρ, StR K ρ S H ∧ EnR K H ρ σ Γ ∧ Pst K (WE W σ) sameR ρ H (sPart f Γ S) Q
theorem lo_none : PO X none (LO X.F W none) := ⟨fun pins s σ H Q I ⟨Γ, S, ρ, hS, hE, hp⟩ => po_none.run pins s σ H Q I (hp ρ H _ (Ext.refl hS) hS rfl)⟩
theorem intOf_rp {K : Fx} {ρ : Pl} {x : V} {v : Vl} {k : Int} (h : Vr K H ρ x v) (e : intOf v = some k) : x = .int k := by
  unfold intOf at e
  split at e
  · cases e
    cases (show Rp _ _ _ _ _ from h)
    rfl
  · cases e
theorem lo_some (ha : PE X a (LE X.F W fa)) : PO X (some a) (LO X.F W (some fa)) := ⟨fun pins s σ H Q I ⟨Γ, S, ρ, hS, hE, hp⟩ => by
  refine (po_some ha).run pins s σ H Q I ⟨Γ, S, ρ, hS, hE, Pst.bind hp fun va S1 ρ1 H1 x _ x1 hS1 q1 hp => ?_⟩
  split at hp
  · rename_i k e
    exact ⟨k, intOf_rp q1 e, hp ρ1 H1 _ (Ext.refl hS1) hS1 rfl⟩
  · exact hp.elim⟩
theorem le_slice {lo hi : Option Expr} {fl fh : Option SE} {p2 : Pos} (ha : PE X a (LE X.F W fa)) (hl : PO X lo (LO X.F W fl)) (hh : PO X hi (LO X.F W fh)) : PE X (.Subscript a (.Slice lo hi none p2) pos) (LE X.F W (sSl fa fl fh)) :=
  (pe_slice sld ha hl hh).weak fun σ H Q ⟨Γ, S, ρ, hS, hE, hp⟩ => by
    refine ⟨Γ, S, ρ, hS, hE, Pst.bind hp fun va S1 ρ1 H1 x _ x1 hS1 q1 hp => ?_⟩
    refine ⟨Γ, S1, ρ1, hS1, hE.ext x1, Pst.bind hp fun l S2 ρ2 H2 y _ x2 hS2 q2 hp => ?_⟩
    refine ⟨Γ, S2, ρ2, hS2, (hE.ext x1).ext x2, Pst.bind hp fun h S3 ρ3 H3 z _ x3 hS3 q3 hp => ?_⟩
    cases q2
    cases q3
    obtain ⟨v, S', e, hc⟩ := hp.leaf nx_sl
    exact ⟨ρ3, S3, va, v, S', hS3, (q1.ext x2).ext x3, e, hc⟩
end
end L2.Pv

set_option Elab.async false
set_option linter.all false
set_option maxRecDepth 100000
/-! enumerate over a tuple -/
namespace L2.Pv
open PySem PySem.Spec PyProof.Rows L2
set_option maxHeartbeats 1000000 in
theorem pv_enum_made {vv : Value} {ob : Obj} {HH : Heap → Prop} (B : Begins vv ob HH) : Meets (Builtin.«enumerate.__new__» ⟨[.type "enumerate", vv], []⟩)
    (fun _ R s => HH s.heap ∧ R (.ok (.ret (.ref (s.heap.push ob).objs.size))) { s with heap := (s.heap.push ob).push { cls := .type "enumerate", data := .fields #[.none, .bool false, .ref s.heap.objs.size, rawInt 0, .none, .none] } }) :=
  .of_wp fun pg wd AA RR st0 hyp => by
    obtain ⟨hp, g, d, tk, os⟩ := st0; obtain ⟨h1, h⟩ := hyp
    have hsub := sub_enumerate
    have q1 : ∀ {A' : Around} {EE : Value → Shared → Prop} {QQ : Value → Shared → Prop}, QQ (.ref hp.objs.size) ⟨hp.push ob, g, d, tk, os⟩ → wpAny (model pg wd) A' (pyIter vv) QQ EE ⟨hp, g, d, tk, os⟩ :=
      fun q => B.iter pg wd _ _ ⟨hp, g, d, tk, os⟩ _ h1 q
    wp_walk using q1
    (refine wpAny_stack_any fun stk => wpAny_pure ?_); split
    · (rename_i cc _ _ _ _ _); cases (cc == Value.type "enumerate") <;> (wp_walk using q1; exact ⟨_, rfl, h⟩)
    · (wp_walk using q1); exact ⟨_, rfl, h⟩
section
variable {prog : Program} {w : World} {A : Around} {E : Value → Shared → Prop} {s : Shared}
theorem pv_enum_tup {t : Addr} {items : Array Value} {Q : Value → Shared → Prop} (ht : s.heap.IsTuple t items)
    (h : ∀ hn, IsEnum hn (s.heap.objs.size + 1) s.heap.objs.size 0 .none → hn.IsTupleIter s.heap.objs.size t 0 → (∀ b o, s.heap.get? b = some o → hn.get? b = some o) → Q (.ref (s.heap.objs.size + 1)) { s with heap := hn }) :
    wpAny (model prog w) A (call (.type "enumerate") [.ref t]) Q E s := by
  have B := begins_tuple t items
  refine callType_new F.called_enumerate (by decide) (F.typeCall_enumerate_1 _) (F.newCall_enumerate_1 _) (fun ob => F.args_object_init_2 ob _) F.entry_enumerate_new (pv_enum_made B) ⟨ht, ?_⟩
  have hz : (s.heap.push { cls := .type "tuple_iterator", data := .fields #[.ref t, .int 0 0] }).objs.size = s.heap.objs.size + 1 := by rw [Heap.size_push]
  show _ ∧ _
  rw [hz]
  have he : IsEnum ((s.heap.push { cls := .type "tuple_iterator", data := .fields #[.ref t, .int 0 0] }).push { cls := .type "enumerate", data := .fields #[.none, .bool false, .ref s.heap.objs.size, rawInt 0, .none, .none] }) (s.heap.objs.size + 1) s.heap.objs.size 0 .none := by
    have z := Heap.get?_push_size (s.heap.push { cls := .type "tuple_iterator", data := .fields #[.ref t, .int 0 0] }) (o := { cls := .type "enumerate", data := .fields #[.none, .bool false, .ref s.heap.objs.size, rawInt 0, .none, .none] }) rfl
    rw [hz] at z; exact z
  exact ⟨⟨_, he, rfl⟩, h _ he ⟨_, Heap.get?_push_of_some _ (Heap.get?_push_size _ rfl), rfl, rfl⟩ fun b o x => Heap.get?_push_of_some _ (Heap.get?_push_of_some _ x)⟩
end
/-- the tuple at a, each item in a new pair -/
def IteT (K : PySem.W.Frag) (a : Addr) : It :=
  ⟨fun i H => ∃ (xs : List V) (x : V), SqT K H a xs ∧ xs[i]? = some x, fun i H v H' => ∃ T x, v = .ref T ∧ H T = none ∧ H' = upd H T (.tup [.int (i : Nat), x]) ∧ ∀ xs, SqT K H a xs → xs[i]? = some x, fun i H => ∃ xs : List V, SqT K H a xs ∧ xs.length ≤ i⟩
theorem pv_ne_tup {h : Heap} {e it a : Addr} {i : Int} {old : Value} {items : Array Value} (he : IsEnum h e it i old) (ht : h.IsTuple a items) : e ≠ a := fun z => by
  obtain ⟨o, ho, hc, _⟩ := ht
  rw [← z, he] at ho
  cases ho
  exact absurd (show (Value.type "enumerate") = .type "tuple" from hc) (by simp)
theorem pv_ne_it {h : Heap} {it a : Addr} {i : Nat} {items : Array Value} (he : h.IsTupleIter it a i) (ht : h.IsTuple a items) : a ≠ it := fun z => by
  obtain ⟨o, ho, hc, _⟩ := ht
  obtain ⟨o2, ho2, hc2, _⟩ := he
  rw [← z, ho] at ho2
  cases ho2
  rw [hc] at hc2
  exact absurd hc2 (by simp)
theorem turn_enumT {P : Program} {w : World} {K : PySem.W.Frag} {elts : List Expr} {kk : Nat} {tpos : Pos} (a e it : Addr) :
    Turn P w K (.Tuple elts kk tpos) (IteT K a) [e, it] e (fun i h => (∃ old, IsEnum h e it ((i : Nat) : Int) old) ∧ h.IsTupleIter it a i ∧ e ≠ it) where
  mem := List.mem_cons_self
  obj := fun i h st b hb => by
    obtain ⟨⟨old, he⟩, ⟨o, ho, hc, hd⟩, _⟩ := st
    rcases (show b = e ∨ b = it by simpa using hb) with z | z
    · rw [z]; exact ⟨_, he, fun v q => nomatch q⟩
    · rw [z]; exact ⟨o, ho, fun v q => by rw [hd] at q; cases q⟩
  keep := fun i h h' st k => ⟨⟨st.1.choose, k e (by simp) _ st.1.choose_spec⟩, st.2.1.at fun o q => k it (by simp) o q, st.2.2⟩
  item := by
    intro X hP hw hK hc i pins s σ H E I hf st hg
    subst hP hw hK
    obtain ⟨⟨old, he⟩, hit, hne⟩ := st
    obtain ⟨xs, x, hq, hx⟩ := hg
    obtain ⟨its, rv, p0, hz⟩ := I.tuple hq
    obtain ⟨u, hu, ru⟩ := rv.get hx
    have p : s.heap.IsTuple a its.toArray := p0
    have hel : e < s.heap.objs.size := Heap.lt_size he
    have hil : it < s.heap.objs.size := by obtain ⟨_, q, _⟩ := hit; exact Heap.lt_size q
    have hea := pv_ne_tup he p
    have hai := pv_ne_it hit p
    have hu2 : its.toArray[i]? = some u := by simpa using hu
    have hlt : i < its.toArray.size := (Array.getElem?_eq_some_iff.mp hu2).1
    have DD : Draws X.prog X.w X.A.in1 it [it, a] its.toArray.size (fun i v => its.toArray[i]? = some v) (fun i h => h.IsTupleIter it a i ∧ h.IsTuple a its.toArray) := Draws.tuple (A := X.A.in1) (show X.A.in1.handled = none from I.ok.hd hc) it a hai its.toArray
    refine wpAny_pyNext_enum_itemD DD he ⟨hit, p⟩ hlt hne (fun hm => ?_) fun x2 h' tk hP ho hst' hT hsz hk => ?_
    · rcases (show e = it ∨ e = a by simpa using hm) with z | z
      · exact hne z
      · exact hea z
    have hP : its.toArray[i]? = some x2 := hP
    rw [hu2] at hP
    cases hP
    refine ⟨_, rfl, wpAny_letOwnedTupleGo_enum (s := { s with heap := h', toks := tk + 1 }) ho fun h'' he' sb => ?_⟩
    have hT2 : h''.get? s.heap.objs.size = some { cls := .type "tuple", data := .seq #[.int i tk, u] } := (sb.2 _ (Nat.ne_of_gt hel)).trans hT
    have new : ObjOk X.prog X.w (upd H s.heap.objs.size (.tup [.int (i : Nat), x])) h'' s.heap.objs.size (.tup [.int (i : Nat), x]) := ⟨by show 2 ≤ sizeLine; decide, [.int i tk, u], .cons ⟨_, rfl⟩ (.cons ru .nil), ⟨_, hT2, rfl, _, rfl⟩⟩
    have I1 : Inv X pins σ (upd H s.heap.objs.size (.tup [.int (i : Nat), x])) { s with heap := h'', toks := tk + 1 } :=
      I.turnedNew (t' := tk + 1) (ch := [e, it]) (fun b ob hb q => (sb.2 b (fun z => hb (by simp [z]))).trans (hk b ob (fun z => hb (by simp [z])) (fun z => hb (by simp [z])) q)) hf (Nat.le_refl _) new
    refine ⟨.ref s.heap.objs.size, _, I1, rfl, ⟨_, x, rfl, I.hok.fresh (Nat.le_refl _), rfl, fun ys hy => by rw [I.tuple_inj hy hq]; exact hx⟩, ⟨⟨u, ?_⟩, hst'.1.at fun o q => (sb.2 it (Ne.symm hne)).trans q, hne⟩, fun b hb => ?_⟩
    · rw [show ((i + 1 : Nat) : Int) = (i : Int) + 1 by omega]; exact he'
    · have hb' : b < s.heap.objs.size := by rcases (show b = e ∨ b = it by simpa using hb) with z | z <;> (rw [z]; assumption)
      rw [upd_ne (Nat.ne_of_lt hb')]; exact (hf b hb).1
  done := by
    intro X hP hw hK hc i pins s σ H E I hf st hg
    subst hP hw hK
    obtain ⟨⟨old, he⟩, hit, hne⟩ := st
    obtain ⟨xs, hq, hx⟩ := hg
    obtain ⟨its, rv, p0, hz⟩ := I.tuple hq
    have p : s.heap.IsTuple a its.toArray := p0
    obtain ⟨f0, f1, f2, f3, f4, f5⟩ := hf it (by simp)
    have hai := pv_ne_it hit p
    have hl := rv.length
    have hin : its.toArray[i]? = none := by simp; omega
    have hT : s.TypeIs (.ref e) "enumerate" := ⟨_, he, rfl⟩
    unfold pyNext
    refine wpAny_bind (wpAny_attempt (wpAny_callSpecial?_slot (name := Str.ofString "__next__") hT F.slot_enumerate_next (wpAny_call_entry F.slot_enumerate_next hT F.entry_enumerate_next ?_ (F.args_enumerate_next_1 _))))
    show wpAny _ _ (field (.ref e) 2 >>= _) _ _ s
    refine wpAny_bind (wpAny_field he rfl (x := .ref it) rfl (wpAny_bind (wpAny_nextOf_tuple_end (I.ok.hd hc) hit p hin fun hn xx he' hx' => ?_)))
    obtain ⟨o, ho, hcc⟩ := hx'
    exact wpAny_bind (wpAny_isInstance (T := "StopIteration") (b := true) ⟨o, ho, hcc⟩ isSubtype_stop (wpAny_pure ⟨rfl, I.turned (t' := s.toks) (fun b o hb q => he' b o hb q) f0 f1 f3 f4 f5⟩))
  self := fun A i s Q E st h => wpAny_pyIter_enum st.1.choose_spec h
/-- enumerate(x), x a list or a tuple -/
def iEnumA (K : PySem.W.Frag) (ta : TA) : TI := fun σ H R => ta σ H fun vs H1 => ∃ a xs, vs = [.ref a] ∧ ((SqL K H1 a xs ∧ R (Ite K a) H1) ∨ (SqT K H1 a xs ∧ R (IteT K a) H1))
theorem pi_enumA {X : Cx} {e : Expr} {ta : TA} {p pos tpos : Pos} {elts : List Expr} {kk : Nat} (hg : Gl X "enumerate") (hm : X.mg "enumerate" = none) (ha : PA X [e] ta) (hs : starEach [e] X.env = [(false, eval e X.env)]) :
    PI X (.Tuple elts kk tpos) (.Call (.Name "enumerate" p) [e] [] pos) (iEnumA X.K ta) := by
  refine ⟨fun pins s σ H R I hyp => Call_ (ld_blt I hg hm boot_enumerate (PyProof.Rows.callWith_type1 (thn (ha.run pos pins s σ H _ I hyp) fun us s1 ⟨vs, H1, I1, r1, q1⟩ => ?_) hs rfl))⟩
  obtain ⟨a, xs, ex, q1⟩ := q1
  subst ex
  have fp : ∀ b, b = s1.heap.objs.size + 1 ∨ b = s1.heap.objs.size → FpOk X pins H1 b := fun b e' => by
    have hle : s1.heap.objs.size ≤ b := by rcases e' with z | z <;> rw [z] <;> first | exact Nat.le_add_right _ _ | exact Nat.le_refl _
    exact I1.fpOk hle (I1.hok.fresh hle)
  cases r1 with
  | cons r rr =>
    cases rr
    cases r
    rcases q1 with ⟨hq, q⟩ | ⟨hq, q⟩
    · obtain ⟨its, rv, p', hz⟩ := I1.list hq
      refine call_enumerate_list p'.isList fun hn he hit hsz hk => wpAny_pyIter_enum he ?_
      exact ⟨s1.heap.objs.size + 1, [s1.heap.objs.size + 1, s1.heap.objs.size], _, _, H1, rfl, I1.kept (t' := s1.toks) hk, turn_enum a (s1.heap.objs.size + 1) s1.heap.objs.size, ⟨⟨.none, he⟩, hit, Nat.succ_ne_self _⟩, fun b hb => fp b (by simpa using hb), q⟩
    · obtain ⟨its, rv, p', hz⟩ := I1.tuple hq
      refine pv_enum_tup (show s1.heap.IsTuple a its.toArray from p') fun hn he hit hk => wpAny_pyIter_enum he ?_
      exact ⟨s1.heap.objs.size + 1, [s1.heap.objs.size + 1, s1.heap.objs.size], _, _, H1, rfl, I1.kept (t' := s1.toks) hk, turn_enumT a (s1.heap.objs.size + 1) s1.heap.objs.size, ⟨⟨.none, he⟩, hit, Nat.succ_ne_self _⟩, fun b hb => fp b (by simpa using hb), q⟩
end L2.Pv

set_option Elab.async false
set_option linter.all false
set_option maxRecDepth 100000
namespace L2.Pv
open PySem PySem.Spec PyProof.Rows L2

/-! ### what is walked -/
inductive Src where
  | its (ds : List PyData)
  | ob (n : Nat)
  | rv (n len : Nat)
abbrev SI := Env → Sto → R Src
/-- an iterator yields the items, whatever grows meanwhile -/
def ItR (K : Fx) (J : It) (m : List Addr) (H : Hp) (items : List PyData) : Prop :=
  ∀ m1 H1, Cov m H m1 H1 → (∀ a ∈ m1, H1 a ≠ none) → (∀ i d, items[i]? = some d → J.go i H1 ∧ ∀ x H2, J.yld i H1 x H2 → (H2 = H1 ∨ ∃ T o, H1 T = none ∧ H2 = upd H1 T o) ∧ Rp K H2 m1 x d) ∧ ∀ i, items.length ≤ i → J.stop i H1
/-- the list object of the store, as it stands at each turn -/
def SrcR (K : Fx) (J : It) (ρ : Pl) (H : Hp) : Src → Prop
  | .its ds => ItR K J ρ.m H ds
  | .ob n => ∃ a, ρ.ad[n]? = some a ∧ J = Itl K.K a
  | .rv n len => ∃ a, ρ.ad[n]? = some a ∧ J = Itv K.K a len
def LI (K : Fx) (W : WX) (f : SI) : TI := fun σ H Q => ∃ Γ S ρ, StR K ρ S H ∧ EnR K H ρ σ Γ ∧ Pst K (WE W σ) (fun H ρ J v => SrcR K J ρ H v) ρ H (f Γ S) Q
def strIts (z : Str) : List PyData := z.cps.toList.map fun c => .str ⟨#[c]⟩
def srcOf (S : Sto) : Vl → Option Src
  | .d (.list ds) => some (.its ds)
  | .d (.tuple ds) => some (.its ds)
  | .d (.str z) => some (.its (strIts z))
  | .d (.dict kds) => some (.its (kds.map (·.1)))
  | .k ds => some (.its ds)
  | .o n => (lstOf S n).map fun _ => .ob n
  | _ => none
def sIter (a : SE) : SI := fun Γ S => (a Γ S).bind fun v S1 => match srcOf S1 v with
  | some s => .ok s S1
  | none => .bad
def rngIts (lo : Int) (n : Nat) : List PyData := (List.range n).map fun (i : Nat) => .int (lo + (i : Int))
def sRng1 (a : SE) : SI := fun Γ S => (a Γ S).bind fun v S1 => match intOf v with
  | some j => if -(2 ^ 62) ≤ j ∧ j < 2 ^ 62 then .ok (.its (rngIts 0 j.toNat)) S1 else .bad
  | none => .bad
def sRng2 (a b : SE) : SI := fun Γ S => (a Γ S).bind fun v S1 => (b Γ S1).bind fun w S2 => match intOf v with
  | some i => match intOf w with
    | some j => if (-(2 ^ 62) ≤ i ∧ i < 2 ^ 62) ∧ (-(2 ^ 62) ≤ j ∧ j < 2 ^ 62) then .ok (.its (rngIts i (j - i).toNat)) S2 else .bad
    | none => .bad
  | none => .bad
def enumIts (ds : List PyData) : List PyData := ds.zipIdx.map fun p => .tuple [.int (p.2 : Nat), p.1]
def sEnum (a : SE) : SI := fun Γ S => (a Γ S).bind fun v S1 => match v with
  | .d (.list ds) => .ok (.its (enumIts ds)) S1
  | .d (.tuple ds) => .ok (.its (enumIts ds)) S1
  | _ => .bad
def zipIts (as bs : List PyData) : List PyData := (as.zip bs).map fun p => .tuple [p.1, p.2]
def sZip (a b : SE) : SI := fun Γ S => (a Γ S).bind fun v S1 => (b Γ S1).bind fun w S2 => match v with
  | .d (.list as) => match w with
    | .d (.list bs) => .ok (.its (zipIts as bs)) S2
    | _ => .bad
  | .d (.tuple as) => match w with
    | .d (.tuple bs) => .ok (.its (zipIts as bs)) S2
    | _ => .bad
  | _ => .bad
def sRev (a : SE) : SI := fun Γ S => (a Γ S).bind fun v S1 => match v with
  | .d (.list ds) => .ok (.its ds.reverse) S1
  | .d (.tuple ds) => .ok (.its ds.reverse) S1
  | .o n => match lstOf S1 n with
    | some ds => .ok (.rv n ds.length) S1
    | none => .bad
  | _ => .bad

section
variable {X : Cx} {a b : Expr} {fa fb : SE} {tg : Expr} {pos : Pos} {σ : L2.St} {H : Hp} {K : Fx} {m : List Addr}
theorem itr_l {c : Addr} {xs : List V} {ds : List PyData} (h : LstAt K H m c xs) (r : RpL K H m xs ds) : ItR K (Itl K.K c) m H ds := fun m1 H1 cv _ => by
  have h1 := h.cov cv
  have r1 := RpL.cov cv _ _ r
  refine ⟨fun i d e => ?_, fun i hi => ⟨xs, h1.sq, by rw [r1.length]; exact hi⟩⟩
  obtain ⟨x, e1, e2⟩ := r1.get e
  refine ⟨⟨xs, x, h1.sq, e1⟩, fun y H2 hy => ?_⟩
  obtain ⟨rfl, f⟩ := hy
  have := f xs h1.sq
  rw [e1] at this
  cases this
  exact ⟨.inl rfl, e2⟩
theorem itr_t {c : Addr} {xs : List V} {ds : List PyData} (h : TupAt K H m c xs) (r : RpL K H m xs ds) : ItR K (Itt K.K c) m H ds := fun m1 H1 cv _ => by
  have h1 := h.cov cv
  have r1 := RpL.cov cv _ _ r
  refine ⟨fun i d e => ?_, fun i hi => ⟨xs, h1.sq, by rw [r1.length]; exact hi⟩⟩
  obtain ⟨x, e1, e2⟩ := r1.get e
  refine ⟨⟨xs, x, h1.sq, e1⟩, fun y H2 hy => ?_⟩
  obtain ⟨rfl, f⟩ := hy
  have := f xs h1.sq
  rw [e1] at this
  cases this
  exact ⟨.inl rfl, e2⟩
theorem itr_s {z : Str} (ok : PySem.PyData.strOk z = true) : ItR K (Its z) m H (strIts z) := fun m1 H1 cv _ => by
  refine ⟨fun i d e => ?_, fun i hi => ?_⟩
  · unfold strIts at e
    rw [List.getElem?_map] at e
    obtain ⟨c, e1, e2⟩ := Option.map_eq_some_iff.mp e
    subst e2
    have hi : i < z.cps.size := by
      have := (List.getElem?_eq_some_iff.mp e1).1
      simpa using this
    refine ⟨hi, fun y H2 hy => ?_⟩
    obtain ⟨rfl, c', e3, rfl⟩ := hy
    have e4 : c' = c := by
      rw [Array.getElem?_toList] at e1
      rw [e1] at e3
      exact (Option.some.inj e3).symm
    subst e4
    exact ⟨.inl rfl, .str _ (strOk_sub ok fun k hk => by
      have : k = c' := by simpa using hk
      subst this
      exact List.mem_of_getElem? e1)⟩
  · show z.cps.size ≤ i
    simpa [strIts] using hi
theorem itr_r {lo : Int} {n : Nat} : ItR K (Itr lo n) m H (rngIts lo n) := fun m1 H1 cv _ => by
  refine ⟨fun i d e => ?_, fun i hi => ?_⟩
  · unfold rngIts at e
    rw [List.getElem?_map] at e
    obtain ⟨c, e1, e2⟩ := Option.map_eq_some_iff.mp e
    subst e2
    obtain ⟨h1, h2⟩ := List.getElem?_eq_some_iff.mp e1
    rw [List.getElem_range] at h2
    subst h2
    have h3 : i < n := by simpa using h1
    refine ⟨h3, fun y H2 hy => ?_⟩
    obtain ⟨rfl, rfl⟩ := hy
    exact ⟨.inl rfl, .int _⟩
  · show n ≤ i
    simpa [rngIts] using hi
theorem new_tup {m1 : List Addr} {H1 : Hp} {T : Addr} {xs : List V} {ds : List PyData} (ht : ∀ a ∈ m1, H1 a ≠ none) (hT : H1 T = none) (r : RpL K H1 m1 xs ds) : Rp K (upd H1 T (.tup xs)) m1 (.ref T) (.tuple ds) :=
  .tup (.inl ⟨.inl upd_same, fun z => ht T z hT⟩) (RpL.cov ⟨fun b u hb _ => by rw [upd_ne (ne_of_none hb hT)]; exact hb, fun _ _ _ n => n⟩ _ _ r)
theorem itr_e {c : Addr} {xs : List V} {ds : List PyData} (h : LstAt K H m c xs) (r : RpL K H m xs ds) : ItR K (Ite K.K c) m H (enumIts ds) := fun m1 H1 cv ht => by
  have h1 := h.cov cv
  have r1 := RpL.cov cv _ _ r
  refine ⟨fun i d e => ?_, fun i hi => ⟨xs, h1.sq, by rw [r1.length]; simpa [enumIts] using hi⟩⟩
  unfold enumIts at e
  rw [List.getElem?_map, List.getElem?_zipIdx] at e
  obtain ⟨p, e1, e2⟩ := Option.map_eq_some_iff.mp e
  obtain ⟨d0, e3, e4⟩ := Option.map_eq_some_iff.mp e1
  subst e2
  subst e4
  obtain ⟨x, e5, e6⟩ := r1.get e3
  refine ⟨⟨xs, x, h1.sq, e5⟩, fun y H2 hy => ?_⟩
  obtain ⟨T, x', rfl, hT, rfl, f⟩ := hy
  have := f xs h1.sq
  rw [e5] at this
  cases this
  refine ⟨.inr ⟨T, _, hT, rfl⟩, ?_⟩
  have q : RpL K H1 m1 [.int (i : Nat), x] [.int (i : Nat), d0] := .cons (.int _) (.cons e6 .nil)
  have := new_tup ht hT q
  simpa using this
theorem itr_et {c : Addr} {xs : List V} {ds : List PyData} (h : TupAt K H m c xs) (r : RpL K H m xs ds) : ItR K (IteT K.K c) m H (enumIts ds) := fun m1 H1 cv ht => by
  have h1 := h.cov cv
  have r1 := RpL.cov cv _ _ r
  refine ⟨fun i d e => ?_, fun i hi => ⟨xs, h1.sq, by rw [r1.length]; simpa [enumIts] using hi⟩⟩
  unfold enumIts at e
  rw [List.getElem?_map, List.getElem?_zipIdx] at e
  obtain ⟨p, e1, e2⟩ := Option.map_eq_some_iff.mp e
  obtain ⟨d0, e3, e4⟩ := Option.map_eq_some_iff.mp e1
  subst e2
  subst e4
  obtain ⟨x, e5, e6⟩ := r1.get e3
  refine ⟨⟨xs, x, h1.sq, e5⟩, fun y H2 hy => ?_⟩
  obtain ⟨T, x', rfl, hT, rfl, f⟩ := hy
  have := f xs h1.sq
  rw [e5] at this
  cases this
  refine ⟨.inr ⟨T, _, hT, rfl⟩, ?_⟩
  have q : RpL K H1 m1 [.int (i : Nat), x] [.int (i : Nat), d0] := .cons (.int _) (.cons e6 .nil)
  have := new_tup ht hT q
  simpa using this
theorem zip_get {as bs : List PyData} {i : Nat} {d : PyData} (e : (zipIts as bs)[i]? = some d) : ∃ x y, as[i]? = some x ∧ bs[i]? = some y ∧ d = .tuple [x, y] := by
  unfold zipIts at e
  rw [List.getElem?_map] at e
  obtain ⟨p, e1, e2⟩ := Option.map_eq_some_iff.mp e
  obtain ⟨h1, h2⟩ := List.getElem?_eq_some_iff.mp e1
  rw [List.getElem_zip] at h2
  rw [List.length_zip] at h1
  refine ⟨_, _, List.getElem?_eq_getElem (by omega), List.getElem?_eq_getElem (by omega), ?_⟩
  rw [← e2, ← h2]
theorem itr_z {c e : Addr} {xs ys : List V} {as bs : List PyData} (h : LstAt K H m c xs) (h' : LstAt K H m e ys) (r : RpL K H m xs as) (r' : RpL K H m ys bs) : ItR K (Itz K.K c e) m H (zipIts as bs) := fun m1 H1 cv ht => by
  have h1 := h.cov cv
  have h2 := h'.cov cv
  have r1 := RpL.cov cv _ _ r
  have r2 := RpL.cov cv _ _ r'
  refine ⟨fun i d e => ?_, fun i hi => ⟨xs, ys, h1.sq, h2.sq, ?_⟩⟩
  · obtain ⟨x, y, e1, e2, rfl⟩ := zip_get e
    obtain ⟨vx, e3, e4⟩ := r1.get e1
    obtain ⟨vy, e5, e6⟩ := r2.get e2
    refine ⟨⟨xs, ys, vx, vy, h1.sq, h2.sq, e3, e5⟩, fun z H2 hy => ?_⟩
    obtain ⟨T, x', y', rfl, hT, rfl, f, f'⟩ := hy
    have q1 := f xs h1.sq
    have q2 := f' ys h2.sq
    rw [e3] at q1
    rw [e5] at q2
    cases q1
    cases q2
    exact ⟨.inr ⟨T, _, hT, rfl⟩, new_tup ht hT (.cons e4 (.cons e6 .nil))⟩
  · rw [r1.length, r2.length]
    have : min as.length bs.length ≤ i := by simpa [zipIts] using hi
    omega
theorem itr_zt {c e : Addr} {xs ys : List V} {as bs : List PyData} (h : TupAt K H m c xs) (h' : TupAt K H m e ys) (r : RpL K H m xs as) (r' : RpL K H m ys bs) : ItR K (RZ.ItzT K.K c e) m H (zipIts as bs) := fun m1 H1 cv ht => by
  have h1 := h.cov cv
  have h2 := h'.cov cv
  have r1 := RpL.cov cv _ _ r
  have r2 := RpL.cov cv _ _ r'
  refine ⟨fun i d e => ?_, fun i hi => ⟨xs, ys, h1.sq, h2.sq, ?_⟩⟩
  · obtain ⟨x, y, e1, e2, rfl⟩ := zip_get e
    obtain ⟨vx, e3, e4⟩ := r1.get e1
    obtain ⟨vy, e5, e6⟩ := r2.get e2
    refine ⟨⟨xs, ys, vx, vy, h1.sq, h2.sq, e3, e5⟩, fun z H2 hy => ?_⟩
    obtain ⟨T, x', y', rfl, hT, rfl, f, f'⟩ := hy
    have q1 := f xs h1.sq
    have q2 := f' ys h2.sq
    rw [e3] at q1
    rw [e5] at q2
    cases q1
    cases q2
    exact ⟨.inr ⟨T, _, hT, rfl⟩, new_tup ht hT (.cons e4 (.cons e6 .nil))⟩
  · rw [r1.length, r2.length]
    have : min as.length bs.length ≤ i := by simpa [zipIts] using hi
    omega
theorem itr_v {c : Addr} {xs : List V} {ds : List PyData} (h : LstAt K H m c xs) (r : RpL K H m xs ds) : ItR K (Itv K.K c xs.length) m H ds.reverse := fun m1 H1 cv _ => by
  have h1 := h.cov cv
  have r1 := RpL.cov cv _ _ r
  have hl := r1.length
  refine ⟨fun i d e => ?_, fun i hi => ?_⟩
  · have hi : i < ds.length := by
      have := (List.getElem?_eq_some_iff.mp e).1
      simpa using this
    rw [List.getElem?_reverse hi] at e
    obtain ⟨x, e1, e2⟩ := r1.get e
    rw [← hl] at e1
    refine ⟨⟨by omega, xs, x, h1.sq, e1⟩, fun y H2 hy => ?_⟩
    obtain ⟨rfl, f⟩ := hy
    have := f xs h1.sq
    rw [e1] at this
    cases this
    exact ⟨.inl rfl, e2⟩
  · show xs.length ≤ i
    rw [hl]
    simpa using hi
theorem itr_vt {c : Addr} {xs : List V} {ds : List PyData} (h : TupAt K H m c xs) (r : RpL K H m xs ds) : ItR K (RT.ItvT K.K c xs.length) m H ds.reverse := fun m1 H1 cv _ => by
  have h1 := h.cov cv
  have r1 := RpL.cov cv _ _ r
  have hl := r1.length
  refine ⟨fun i d e => ?_, fun i hi => ?_⟩
  · have hi : i < ds.length := by
      have := (List.getElem?_eq_some_iff.mp e).1
      simpa using this
    rw [List.getElem?_reverse hi] at e
    obtain ⟨x, e1, e2⟩ := r1.get e
    rw [← hl] at e1
    refine ⟨⟨by omega, xs, x, h1.sq, e1⟩, fun y H2 hy => ?_⟩
    obtain ⟨rfl, f⟩ := hy
    have := f xs h1.sq
    rw [e1] at this
    cases this
    exact ⟨.inl rfl, e2⟩
  · show xs.length ≤ i
    rw [hl]
    simpa using hi

section
variable {W : WX} {f : SE} {r : SI} {Q : It → Hp → Prop}
/-- it is known what the expression yields -/
theorem le_ok {K : Fx} {fa : SE} {Γ : Env} {S S1 : Sto} {ρ : Pl} {σ : L2.St} {va : Vl} {Q : VK} (hS : StR K ρ S H) (hE : EnR K H ρ σ Γ) (e : fa Γ S = .ok va S1) (h : ∀ ρ1 H1 x, Ext ρ H ρ1 H1 → StR K ρ1 S1 H1 → Vr K H1 ρ1 x va → Q x H1) : LE K W fa σ H Q := ⟨Γ, S, ρ, hS, hE, by rw [e]; exact h⟩
theorem le_exc {K : Fx} {fa : SE} {Γ : Env} {S S1 : Sto} {ρ : Pl} {σ : L2.St} {c : Str} {fs : Fds} {Q : VK} (hS : StR K ρ S H) (hE : EnR K H ρ σ Γ) (e : fa Γ S = .exc c fs S1) (h : ContX K ρ H S1 c fs (WE W σ)) : LE K W fa σ H Q := ⟨Γ, S, ρ, hS, hE, by rw [e]; exact h⟩
theorem la_exc {K : Fx} {fa : SA} {Γ : Env} {S S1 : Sto} {ρ : Pl} {σ : L2.St} {c : Str} {fs : Fds} {Q : List V → Hp → Prop} (hS : StR K ρ S H) (hE : EnR K H ρ σ Γ) (e : fa Γ S = .exc c fs S1) (h : ContX K ρ H S1 c fs (WE W σ)) : LA K W fa σ H Q := ⟨Γ, S, ρ, hS, hE, by rw [e]; exact h⟩
theorem la_ok {K : Fx} {fa : SA} {Γ : Env} {S S1 : Sto} {ρ : Pl} {σ : L2.St} {va : List Vl} {Q : List V → Hp → Prop} (hS : StR K ρ S H) (hE : EnR K H ρ σ Γ) (e : fa Γ S = .ok va S1) (h : ∀ ρ1 H1 x, Ext ρ H ρ1 H1 → StR K ρ1 S1 H1 → VrL K H1 ρ1 x va → Q x H1) : LA K W fa σ H Q := ⟨Γ, S, ρ, hS, hE, by rw [e]; exact h⟩
theorem li_iter (ha : PE X a (LE X.F W fa)) : PI X tg a (LI X.F W (sIter fa)) := ⟨fun pins s σ H Q I ⟨Γ, S, ρ, hS, hE, hp⟩ => by
  cases e0 : fa Γ S with
  | bad =>
    rw [show sIter fa Γ S = .bad by unfold sIter; rw [e0]; rfl] at hp
    exact hp.elim
  | exc c fs S1 =>
    rw [show sIter fa Γ S = .exc c fs S1 by unfold sIter; rw [e0]; rfl] at hp
    exact (pi_list ha).run pins s σ H Q I (le_exc hS hE e0 hp)
  | ok va S1 =>
    rw [show sIter fa Γ S = (match srcOf S1 va with | some s => .ok s S1 | none => .bad) by unfold sIter; rw [e0]; rfl] at hp
    split at hp
    · rename_i sr e
      have hc : ∀ ρ' H' J, Ext ρ H ρ' H' → StR X.F ρ' S1 H' → SrcR X.F J ρ' H' sr → Q J H' := hp
      unfold srcOf at e
      split at e
      · rename_i ds
        cases e
        refine (pi_list ha).run pins s σ H Q I (le_ok hS hE e0 fun ρ1 H1 x x1 hS1 q1 => ?_)
        cases (show Rp _ _ _ _ _ from q1) with
        | lst ta qa => exact ⟨_, rfl, ⟨_, ta.sq⟩, hc ρ1 H1 _ x1 hS1 (itr_l ta.at qa)⟩
      · rename_i ds
        cases e
        refine (pi_tup ha).run pins s σ H Q I (le_ok hS hE e0 fun ρ1 H1 x x1 hS1 q1 => ?_)
        cases (show Rp _ _ _ _ _ from q1) with
        | tup ta qa => exact ⟨_, rfl, ⟨_, ta.sq⟩, hc ρ1 H1 _ x1 hS1 (itr_t ta qa)⟩
      · rename_i z
        cases e
        refine (pi_str ha).run pins s σ H Q I (le_ok hS hE e0 fun ρ1 H1 x x1 hS1 q1 => ?_)
        cases (show Rp _ _ _ _ _ from q1) with
        | str _ ok => exact ⟨_, rfl, hc ρ1 H1 _ x1 hS1 (itr_s ok)⟩
      · rename_i kds
        cases e
        refine (pi_dct ha).run pins s σ H Q I (le_ok hS hE e0 fun ρ1 H1 x x1 hS1 q1 => ?_)
        cases (show Rp _ _ _ _ _ from q1) with
        | dct d1 d2 d3 d4 => exact ⟨_, _, _, rfl, d1, keys_rel d4, hc ρ1 H1 _ x1 hS1 fun m1 H2 cv _ => itr_d d1 d2 d4 m1 H2 cv⟩
      · rename_i ds
        cases e
        refine (pi_list ha).run pins s σ H Q I (le_ok hS hE e0 fun ρ1 H1 x x1 hS1 q1 => ?_)
        obtain ⟨c, xs, rfl, ta, qa⟩ := q1
        exact ⟨_, rfl, ⟨_, ta.sq⟩, hc ρ1 H1 _ x1 hS1 (itr_l ta qa)⟩
      · rename_i n
        obtain ⟨ds, e1, rfl⟩ := Option.map_eq_some_iff.mp e
        refine (pi_list ha).run pins s σ H Q I (le_ok hS hE e0 fun ρ1 H1 x x1 hS1 q1 => ?_)
        obtain ⟨c, hc1, rfl⟩ := q1
        obtain ⟨xs, h3, h4⟩ := hS1.lstAt hc1 e1
        exact ⟨_, rfl, ⟨_, .of h3⟩, hc ρ1 H1 _ x1 hS1 ⟨c, hc1, rfl⟩⟩
      · cases e
    · exact hp.elim⟩
theorem li_rng1 {p : Pos} (hg : Gl X "range") (hm : X.mg "range" = none) (ha : PE X a (LE X.F W fa)) (hs : starEach [a] X.env = [(false, eval a X.env)]) : PI X tg (.Call (.Name "range" p) [a] [] pos) (LI X.F W (sRng1 fa)) := ⟨fun pins s σ H Q I ⟨Γ, S, ρ, hS, hE, hp⟩ => by
  refine (pi_range1 hg hm (pa_cons ha pa_nil hs) hs).run pins s σ H Q I ⟨Γ, S, ρ, hS, hE, Pst.bind hp fun va S1 ρ1 H1 x _ x1 hS1 q1 hp => ?_⟩
  split at hp
  · rename_i j e
    split at hp
    · rename_i hz
      cases intOf_rp q1 e
      exact ⟨j, rfl, hz.1, hz.2, hp ρ1 H1 _ (Ext.refl hS1) hS1 itr_r⟩
    · exact hp.elim
  · exact hp.elim⟩
theorem li_rng2 {p : Pos} (hg : Gl X "range") (hm : X.mg "range" = none) (ha : PE X a (LE X.F W fa)) (hb : PE X b (LE X.F W fb)) (hs : starEach [a, b] X.env = [(false, eval a X.env), (false, eval b X.env)]) (hs2 : starEach [b] X.env = [(false, eval b X.env)]) :
    PI X tg (.Call (.Name "range" p) [a, b] [] pos) (LI X.F W (sRng2 fa fb)) := ⟨fun pins s σ H Q I ⟨Γ, S, ρ, hS, hE, hp⟩ => by
  refine (pi_range2 hg hm (pa_cons ha (pa_cons hb pa_nil hs2) (by rw [hs, hs2])) hs hs2).run pins s σ H Q I ⟨Γ, S, ρ, hS, hE, Pst.bind hp fun va S1 ρ1 H1 x _ x1 hS1 q1 hp => ?_⟩
  refine ⟨Γ, S1, ρ1, hS1, hE.ext x1, Pst.bind hp fun vb S2 ρ2 H2 y _ x2 hS2 q2 hp => ?_⟩
  split at hp
  · rename_i i e
    split at hp
    · rename_i j e'
      split at hp
      · rename_i hz
        cases intOf_rp q1 e
        cases intOf_rp q2 e'
        exact ⟨i, j, rfl, ⟨hz.1.1, hz.1.2, hz.2.1, hz.2.2⟩, hp ρ2 H2 _ (Ext.refl hS2) hS2 itr_r⟩
      · exact hp.elim
    · exact hp.elim
  · exact hp.elim⟩
theorem li_enum {p tpos : Pos} {elts : List Expr} {kk : Nat} (hg : Gl X "enumerate") (hm : X.mg "enumerate" = none) (ha : PE X a (LE X.F W fa)) (hs : starEach [a] X.env = [(false, eval a X.env)]) :
    PI X (.Tuple elts kk tpos) (.Call (.Name "enumerate" p) [a] [] pos) (LI X.F W (sEnum fa)) := ⟨fun pins s σ H Q I ⟨Γ, S, ρ, hS, hE, hp⟩ => by
  refine (pi_enumA hg hm (pa_cons ha pa_nil hs) hs).run pins s σ H Q I ⟨Γ, S, ρ, hS, hE, Pst.bind hp fun va S1 ρ1 H1 x _ x1 hS1 q1 hp => ?_⟩
  split at hp
  · cases (show Rp _ _ _ _ _ from q1) with
    | lst ta qa => exact ⟨_, _, rfl, .inl ⟨ta.sq, hp ρ1 H1 _ (Ext.refl hS1) hS1 (itr_e ta.at qa)⟩⟩
  · cases (show Rp _ _ _ _ _ from q1) with
    | tup ta qa => exact ⟨_, _, rfl, .inr ⟨ta.sq, hp ρ1 H1 _ (Ext.refl hS1) hS1 (itr_et ta qa)⟩⟩
  · exact hp.elim⟩
theorem li_zip {p tpos : Pos} {elts : List Expr} {kk : Nat} (hg : Gl X "zip") (hm : X.mg "zip" = none) (ha : PE X a (LE X.F W fa)) (hb : PE X b (LE X.F W fb)) (hs : starEach [a, b] X.env = (false, eval a X.env) :: starEach [b] X.env) (hs2 : starEach [b] X.env = (false, eval b X.env) :: starEach [] X.env)
    (hpl : (backTo pos (starEach [b] X.env)).any (·.1) = false) : PI X (.Tuple elts kk tpos) (.Call (.Name "zip" p) [a, b] [] pos) (LI X.F W (sZip fa fb)) := ⟨fun pins s σ H Q I ⟨Γ, S, ρ, hS, hE, hp⟩ => by
  refine (RZ.pi_zipA hg hm (pa_cons ha (pa_cons hb pa_nil hs2) hs) hs hpl).run pins s σ H Q I ⟨Γ, S, ρ, hS, hE, Pst.bind hp fun va S1 ρ1 H1 x _ x1 hS1 q1 hp => ?_⟩
  refine ⟨Γ, S1, ρ1, hS1, hE.ext x1, Pst.bind hp fun vb S2 ρ2 H2 y _ x2 hS2 q2 hp => ?_⟩
  have q1 := q1.ext x2
  split at hp
  · split at hp
    · cases (show Rp _ _ _ _ _ from q1) with
      | lst ta qa =>
        cases (show Rp _ _ _ _ _ from q2) with
        | lst tb qb => exact ⟨_, _, _, _, rfl, .inl ⟨ta.sq, tb.sq, hp ρ2 H2 _ (Ext.refl hS2) hS2 (itr_z ta.at tb.at qa qb)⟩⟩
    · exact hp.elim
  · split at hp
    · cases (show Rp _ _ _ _ _ from q1) with
      | tup ta qa =>
        cases (show Rp _ _ _ _ _ from q2) with
        | tup tb qb => exact ⟨_, _, _, _, rfl, .inr ⟨ta.sq, tb.sq, hp ρ2 H2 _ (Ext.refl hS2) hS2 (itr_zt ta tb qa qb)⟩⟩
    · exact hp.elim
  · exact hp.elim⟩
theorem li_rev {p : Pos} (hg : Gl X "reversed") (hm : X.mg "reversed" = none) (ha : PE X a (LE X.F W fa)) (hs : starEach [a] X.env = (false, eval a X.env) :: starEach [] X.env) : PI X tg (.Call (.Name "reversed" p) [a] [] pos) (LI X.F W (sRev fa)) := ⟨fun pins s σ H Q I ⟨Γ, S, ρ, hS, hE, hp⟩ => by
  refine (RT.pi_revA hg hm ha hs).run pins s σ H Q I ⟨Γ, S, ρ, hS, hE, Pst.bind hp fun va S1 ρ1 H1 x _ x1 hS1 q1 hp => ?_⟩
  split at hp
  · cases (show Rp _ _ _ _ _ from q1) with
    | lst ta qa => exact ⟨_, _, rfl, .inl ⟨ta.sq, hp ρ1 H1 _ (Ext.refl hS1) hS1 (itr_v ta.at qa)⟩⟩
  · cases (show Rp _ _ _ _ _ from q1) with
    | tup ta qa => exact ⟨_, _, rfl, .inr ⟨ta.sq, hp ρ1 H1 _ (Ext.refl hS1) hS1 (itr_vt ta qa)⟩⟩
  · split at hp
    · rename_i n _ ds e1
      obtain ⟨c, hc1, rfl⟩ := q1
      obtain ⟨xs, h3, h4⟩ := hS1.lstAt hc1 e1
      refine ⟨_, xs, rfl, .inl ⟨.of h3, hp ρ1 H1 _ (Ext.refl hS1) hS1 ⟨c, hc1, ?_⟩⟩⟩
      rw [h4.length]
    · exact hp.elim
  · exact hp.elim⟩
end

/-! ### targets that take data -/
abbrev Tg := PyData → Env → Option Env
def tNm (i : Nat) : Tg := fun d Γ => some (Γ.set i (some (.d d)))
def setAll : List Nat → List PyData → Env → Option Env
  | [], [], Γ => some Γ
  | i :: is, d :: ds, Γ => setAll is ds (Γ.set i (some (.d d)))
  | _, _, _ => none
def tTp (is : List Nat) : Tg := fun d Γ => match d with
  | .tuple ds => setAll is ds Γ
  | _ => none
/-- but for the places is the same -/
def WSame (is : List Nat) (σ σ' : L2.St) : Prop := σ'.length = σ.length ∧ ∀ j, j ∉ is → σ'[j]? = σ[j]?
def LG (K : Fx) (is : List Nat) (t : Tg) : TG := fun v σ H Q => ∃ Γ S ρ d Γ', StR K ρ S H ∧ EnR K H ρ σ Γ ∧ Rp K H ρ.m v d ∧ t d Γ = some Γ' ∧ ∀ σ', EnR K H ρ σ' Γ' → WSame is σ σ' → Q σ' H
theorem WSame.set {σ : L2.St} {i : Nat} {x : Option V} : WSame [i] σ (σ.set i x) := ⟨List.length_set, fun j hj => by
  rw [List.getElem?_set_ne]
  exact fun e => hj (by rw [e]; exact List.mem_cons_self)⟩
theorem WSame.trans {σ σ1 σ2 : L2.St} {is js ks : List Nat} (a : WSame is σ σ1) (b : WSame js σ1 σ2) (h1 : ∀ i ∈ is, i ∈ ks) (h2 : ∀ i ∈ js, i ∈ ks) : WSame ks σ σ2 := ⟨b.1.trans a.1, fun j hj => (b.2 j fun z => hj (h2 j z)).trans (a.2 j fun z => hj (h1 j z))⟩
theorem _root_.L2.PG.weak {e : Expr} {t t' : TG} (h : PG X e t) (w : ∀ v σ H Q, t' v σ H Q → t v σ H Q) : PG X e t' := ⟨fun pins s σ H v u Q I r hq => h.run pins s σ H v u Q I r (w _ _ _ _ hq)⟩
theorem lg_name {i : Nat} {x : Str} (h : PG X (.Name x pos) (gName i)) : PG X (.Name x pos) (LG X.F [i] (tNm i)) := h.weak fun v σ H Q ⟨Γ, S, ρ, d, Γ', hS, hE, hr, ht, hq⟩ => by
  cases ht
  exact hq _ (hE.set (v := .d d) hr) .set
inductive NmL (X : Cx) : List Expr → List Nat → Prop
  | nil : NmL X [] []
  | cons {e : Expr} {es : List Expr} {i : Nat} {is : List Nat} : PG X e (gName i) → (assignEach (e :: es) X.env).map (·.2) = assign e X.env :: (assignEach es X.env).map (·.2) → NmL X es is → NmL X (e :: es) (i :: is)
def LGs (K : Fx) (is : List Nat) : TGs := fun vs σ H Q => ∃ Γ S ρ ds Γ', StR K ρ S H ∧ EnR K H ρ σ Γ ∧ RpL K H ρ.m vs ds ∧ setAll is ds Γ = some Γ' ∧ ∀ σ', EnR K H ρ σ' Γ' → WSame is σ σ' → Q σ' H
theorem _root_.L2.PGs.weak {e : List Expr} {t t' : TGs} (h : PGs X e t) (w : ∀ v σ H Q, t' v σ H Q → t v σ H Q) : PGs X e t' := ⟨fun pins s σ H v u Q I r hq => h.run pins s σ H v u Q I r (w _ _ _ _ hq)⟩
theorem lgs_of {es : List Expr} {is : List Nat} (h : NmL X es is) : PGs X es (LGs X.F is) := by
  induction h with
  | nil =>
    refine pgs_nil.weak fun vs σ H Q ⟨Γ, S, ρ, ds, Γ', hS, hE, hr, ht, hq⟩ => ?_
    cases ds with
    | nil =>
      cases hr
      cases ht
      exact ⟨rfl, hq σ hE ⟨rfl, fun _ _ => rfl⟩⟩
    | cons d ds => cases ht
  | cons h1 hs h2 ih =>
    refine (pgs_cons h1 ih hs).weak fun vs σ H Q ⟨Γ, S, ρ, ds, Γ', hS, hE, hr, ht, hq⟩ => ?_
    cases ds with
    | nil => cases ht
    | cons d ds =>
      cases hr with
      | cons r1 r2 => exact ⟨_, _, rfl, Γ.set _ (some (.d d)), S, ρ, ds, Γ', hS, hE.set (v := .d d) r1, r2, ht, fun σ' e w => hq σ' e (WSame.set.trans w (fun i hi => by rw [List.mem_singleton.mp hi]; exact List.mem_cons_self) fun i hi => List.mem_cons_of_mem _ hi)⟩
theorem lg_tup {es : List Expr} {is : List Nat} {k : Nat} (hc : X.calm = true) (h : NmL X es is) (hn : (assignEach es X.env).length = es.length) (hst : (assignEach es X.env).findIdx? (·.1) = none) (hl : is.length = es.length) : PG X (.Tuple es k pos) (LG X.F is (tTp is)) :=
  (pg_tup hc (lgs_of h) hn hst).weak fun v σ H Q ⟨Γ, S, ρ, d, Γ', hS, hE, hr, ht, hq⟩ => by
    unfold tTp at ht
    split at ht
    · rename_i ds
      cases hr with
      | tup ta qa =>
        refine ⟨_, _, rfl, ta.sq, ?_, Γ, S, ρ, ds, Γ', hS, hE, qa, ht, hq⟩
        rw [qa.length]
        have key : ∀ (is : List Nat) (ds : List PyData) (Γ Γ' : Env), setAll is ds Γ = some Γ' → ds.length = is.length := by
          intro is
          induction is with
          | nil =>
            intro ds Γ Γ' h
            cases ds with
            | nil => rfl
            | cons d ds => cases h
          | cons i is ih =>
            intro ds Γ Γ' h
            cases ds with
            | nil => cases h
            | cons d ds => show _ + 1 = _ + 1; rw [ih ds _ _ h]
        rw [key _ _ _ _ ht, hl]
    · cases ht
/-! ### nested targets -/
def runAll : List Tg → List PyData → Env → Option Env
  | [], [], Γ => some Γ
  | t :: ts, d :: ds, Γ => match t d Γ with
    | some Γ1 => runAll ts ds Γ1
    | none => none
  | _, _, _ => none
def tTs (ts : List Tg) : Tg := fun d Γ => match d with
  | .tuple ds => runAll ts ds Γ
  | _ => none
inductive TgL (X : Cx) : List Expr → List (List Nat × Tg) → Prop
  | nil : TgL X [] []
  | cons {e : Expr} {es : List Expr} {is : List Nat} {t : Tg} {r : List (List Nat × Tg)} : PG X e (LG X.F is t) → (assignEach (e :: es) X.env).map (·.2) = assign e X.env :: (assignEach es X.env).map (·.2) → TgL X es r → TgL X (e :: es) ((is, t) :: r)
def LGt (K : Fx) (r : List (List Nat × Tg)) : TGs := fun vs σ H Q => ∃ Γ S ρ ds Γ', StR K ρ S H ∧ EnR K H ρ σ Γ ∧ RpL K H ρ.m vs ds ∧ runAll (r.map (·.2)) ds Γ = some Γ' ∧ ∀ σ', EnR K H ρ σ' Γ' → WSame (r.flatMap (·.1)) σ σ' → Q σ' H
theorem lgt_of {es : List Expr} {r : List (List Nat × Tg)} (h : TgL X es r) : PGs X es (LGt X.F r) := by
  induction h with
  | nil =>
    refine pgs_nil.weak fun vs σ H Q ⟨Γ, S, ρ, ds, Γ', hS, hE, hr, ht, hq⟩ => ?_
    cases ds with
    | nil =>
      cases hr
      cases ht
      exact ⟨rfl, hq σ hE ⟨rfl, fun _ _ => rfl⟩⟩
    | cons d ds => cases ht
  | @cons e es is t r h1 hs h2 ih =>
    refine (pgs_cons h1 ih hs).weak fun vs σ H Q ⟨Γ, S, ρ, ds, Γ', hS, hE, hr, ht, hq⟩ => ?_
    cases ds with
    | nil => cases ht
    | cons d ds =>
      have ht : (match t d Γ with | some Γ1 => runAll (r.map (·.2)) ds Γ1 | none => none) = some Γ' := ht
      split at ht
      · rename_i Γ1 e1
        cases hr with
        | cons r1 r2 => exact ⟨_, _, rfl, Γ, S, ρ, d, Γ1, hS, hE, r1, e1, fun σ1 hE1 w1 => ⟨Γ1, S, ρ, ds, Γ', hS, hE1, r2, ht, fun σ' e w => hq σ' e (w1.trans w (fun i hi => List.mem_flatMap.mpr ⟨(is, t), List.mem_cons_self, hi⟩) fun i hi => by
            obtain ⟨q, hq1, hq2⟩ := List.mem_flatMap.mp hi
            exact List.mem_flatMap.mpr ⟨q, List.mem_cons_of_mem _ hq1, hq2⟩)⟩⟩
      · cases ht
theorem lg_tupN {es : List Expr} {r : List (List Nat × Tg)} {k : Nat} (hc : X.calm = true) (h : TgL X es r) (hn : (assignEach es X.env).length = es.length) (hst : (assignEach es X.env).findIdx? (·.1) = none) (hl : r.length = es.length) : PG X (.Tuple es k pos) (LG X.F (r.flatMap (·.1)) (tTs (r.map (·.2)))) :=
  (pg_tup hc (lgt_of h) hn hst).weak fun v σ H Q ⟨Γ, S, ρ, d, Γ', hS, hE, hr, ht, hq⟩ => by
    unfold tTs at ht
    split at ht
    · rename_i ds
      cases hr with
      | tup ta qa =>
        refine ⟨_, _, rfl, ta.sq, ?_, Γ, S, ρ, ds, Γ', hS, hE, qa, ht, hq⟩
        rw [qa.length]
        have key : ∀ (ts : List Tg) (ds : List PyData) (Γ Γ' : Env), runAll ts ds Γ = some Γ' → ds.length = ts.length := by
          intro ts
          induction ts with
          | nil =>
            intro ds Γ Γ' h
            cases ds with
            | nil => rfl
            | cons d ds => cases h
          | cons t ts ih =>
            intro ds Γ Γ' h
            cases ds with
            | nil => cases h
            | cons d ds =>
              have h : (match t d Γ with | some Γ1 => runAll ts ds Γ1 | none => none) = some Γ' := h
              split at h
              · show _ + 1 = _ + 1
                rw [ih ds _ _ h]
              · cases h
        rw [key _ _ _ _ ht, List.length_map, hl]
    · cases ht
end
end L2.Pv

set_option Elab.async false
set_option linter.all false
set_option maxRecDepth 100000
namespace L2.Pv
open PySem PySem.Spec PyProof.Rows L2

/-! ### the next item -/
def nxtV (o : Option (List PyData)) (len i : Nat) : Option (Option PyData) := match o with
  | some ds => if i < len then (ds[len - 1 - i]?).map some else some none
  | none => none
def nxt (src : Src) (S : Sto) (i : Nat) : Option (Option PyData) := match src with
  | .its ds => some ds[i]?
  | .ob n => (lstOf S n).map (·[i]?)
  | .rv n len => nxtV (lstOf S n) len i
def bigFuel : Nat := 1000000
def fuelOf : Src → Nat
  | .its ds => ds.length + 1
  | .ob _ => bigFuel
  | .rv _ len => len + 1
section
variable {K : Fx} {ρ ρ1 ρ2 : Pl} {H H1 H2 : Hp} {S S2 : Sto} {J : It} {src : Src}
theorem src_go (h : SrcR K J ρ H src) (x : Ext ρ H ρ2 H2) (hS : StR K ρ2 S2 H2) :
    (∀ i d, nxt src S2 i = some (some d) → J.go i H2 ∧ ∀ x H3, J.yld i H2 x H3 → (H3 = H2 ∨ ∃ T o, H2 T = none ∧ H3 = upd H2 T o) ∧ Rp K H3 ρ2.m x d) ∧ ∀ i, nxt src S2 i = some none → J.stop i H2 := by
  cases src with
  | its ds =>
    obtain ⟨h1, h2⟩ := h _ _ x.cov hS.tk
    exact ⟨fun i d e => h1 i d (Option.some.inj e), fun i e => h2 i (List.getElem?_eq_none_iff.mp (Option.some.inj e))⟩
  | ob n =>
    obtain ⟨a, ha, rfl⟩ := h
    have ha2 := x.ad ha
    refine ⟨fun i d e => ?_, fun i e => ?_⟩
    · obtain ⟨ds, h1, h2⟩ := Option.map_eq_some_iff.mp (show (lstOf S2 n).map (·[i]?) = some (some d) from e)
      obtain ⟨xs, h3, h4⟩ := hS.lstAt ha2 h1
      obtain ⟨x, h5, h6⟩ := h4.get h2
      refine ⟨⟨xs, x, .of h3, h5⟩, fun y H3 hy => ?_⟩
      obtain ⟨rfl, f⟩ := hy
      have := f xs (.of h3)
      rw [h5] at this
      cases this
      exact ⟨.inl rfl, h6⟩
    · obtain ⟨ds, h1, h2⟩ := Option.map_eq_some_iff.mp (show (lstOf S2 n).map (·[i]?) = some none from e)
      obtain ⟨xs, h3, h4⟩ := hS.lstAt ha2 h1
      exact ⟨xs, .of h3, by rw [h4.length]; exact List.getElem?_eq_none_iff.mp h2⟩
  | rv n len =>
    obtain ⟨a, ha, rfl⟩ := h
    have ha2 := x.ad ha
    refine ⟨fun i d e => ?_, fun i e => ?_⟩
    · have e : nxtV (lstOf S2 n) len i = some (some d) := e
      unfold nxtV at e
      split at e
      · rename_i ds h1
        split at e
        · rename_i hi
          obtain ⟨d2, h2, e2⟩ := Option.map_eq_some_iff.mp e
          cases e2
          obtain ⟨xs, h3, h4⟩ := hS.lstAt ha2 h1
          obtain ⟨x, h5, h6⟩ := h4.get h2
          refine ⟨⟨hi, xs, x, .of h3, h5⟩, fun y H3 hy => ?_⟩
          obtain ⟨rfl, f⟩ := hy
          have := f xs (.of h3)
          rw [h5] at this
          cases this
          exact ⟨.inl rfl, h6⟩
        · cases e
      · cases e
    · have e : nxtV (lstOf S2 n) len i = some none := e
      unfold nxtV at e
      split at e
      · split at e
        · obtain ⟨d2, h2, e2⟩ := Option.map_eq_some_iff.mp e
          cases e2
        · rename_i hi
          show len ≤ i
          omega
      · cases e
/-- the same or one new object -/
theorem grown (hS : StR K ρ S H) (h : H1 = H ∨ ∃ T o, H T = none ∧ H1 = upd H T o) : StR K ρ S H1 ∧ Ext ρ H ρ H1 := by
  rcases h with rfl | ⟨T, o, hT, rfl⟩
  · exact ⟨hS, Ext.refl hS⟩
  · exact hS.fresh hT
/-- an object apart: it may change, it is not of the store -/
def Pl.apart (ρ : Pl) (D : Addr) : Pl := ⟨ρ.sl, ρ.m ++ [D]⟩
theorem StR.apart (h : StR K ρ S H) {D : Addr} {o : HO} (hD : H D = none) : StR K (ρ.apart D) S (upd H D o) ∧ Ext ρ H (ρ.apart D) (upd H D o) := by
  have hn := h.notin hD
  have hna := h.notad hD
  obtain ⟨g1, g2⟩ := h.fresh (o := o) hD
  have cv : Cov ρ.m H (ρ.apart D).m (upd H D o) := more_cov (ρ := ρ) hD
  refine ⟨⟨h.nd, fun a ha => ?_, g1.tka, pairedMono h.all fun r u hr q => q.cov cv (fun b hb => upd_ne fun z => ?_) fun b hb z => List.mem_append_left _ z⟩, ⟨fun _ _ _ h => sl_same h, fun _ h => .inl h, fun b u hb _ => by rw [upd_ne (ne_of_none hb hD)]; exact hb, cv.out, fun b hb hbn => ⟨List.mem_append_left _ hb, hbn⟩, g2.trk⟩⟩
  · rcases List.mem_append.mp ha with ha | ha
    · exact g1.tk a ha
    · rw [List.mem_singleton.mp ha, upd_same]
      exact fun z => nomatch z
  · subst z
    exact hna (own_of hr hb)
/-- it is written -/
theorem StR.apartSet (h : StR K ρ S H) {D : Addr} {o : HO} (hm : D ∈ ρ.m) (hn : D ∉ ρ.own) : StR K ρ S (upd H D o) ∧ Cov ρ.m H ρ.m (upd H D o) := by
  have cv : Cov ρ.m H ρ.m (upd H D o) := ⟨fun a u ea na => by rw [upd_ne (fun z => na (by rw [z]; exact hm))]; exact ea, fun _ _ _ n => n⟩
  have htr : ∀ b, H b ≠ none → upd H D o b ≠ none := fun b hb => by
    by_cases z : b = D
    · subst z; rw [upd_same]; exact fun z => by cases z
    · rw [upd_ne z]; exact hb
  exact ⟨⟨h.nd, fun b hb => htr b (h.tk b hb), fun b hb => htr b (h.tka b hb), pairedMono h.all fun r u hr q => q.cov cv (fun b hb => upd_ne fun z => hn (by rw [← z]; exact own_of hr hb)) fun b hb z => z⟩, cv⟩
/-- it is data from now on -/
theorem StR.apartEnd (h : StR K ρ S H) {D : Addr} (hn : D ∉ ρ.own) : StR K (ρ.less [D]) S H :=
  ⟨h.nd, fun b hb => h.tk b (less_mem.mp hb).1, h.tka, pairedMono h.all fun r u hr q => q.cov less_cov (fun b hb => rfl) fun b hb z => less_mem.mpr ⟨z, fun y => hn (by rw [← List.mem_singleton.mp y]; exact own_of hr hb)⟩⟩
end

/-! ### list comprehensions -/
/-- what may not raise -/
def R.bindB {α β : Type} (r : R α) (f : α → Sto → R β) : R β := match r with
  | .ok a S => f a S
  | _ => .bad
theorem R.bindB_ok {α β : Type} {r : R α} {f : α → Sto → R β} {b : β} {S : Sto} (h : r.bindB f = .ok b S) : ∃ a S1, r = .ok a S1 ∧ f a S1 = .ok b S := by
  cases r with
  | ok a S1 => exact ⟨a, S1, rfl, h⟩
  | exc c fs S1 => cases h
  | bad => cases h
theorem nx_bindB {α β : Type} {r : R α} {f : α → Sto → R β} (h : ∀ a S, NoX (f a S)) : NoX (r.bindB f) := by
  cases r with
  | ok a S1 => exact h a S1
  | exc c fs S1 => trivial
  | bad => trivial
def cloop (tg : Tg) (tst : ST) (elt : SE) (Γ : Env) (src : Src) : Nat → Nat → Sto → R (List PyData)
  | 0, _, _ => .bad
  | f + 1, i, S => match nxt src S i with
    | none => .bad
    | some none => .ok [] S
    | some (some d) => match tg d Γ with
      | none => .bad
      | some Γ2 => (tst Γ2 S).bindB fun b S1 => if b = true then (elt Γ2 S1).bindB fun v S2 => match v with
          | .d y => (cloop tg tst elt Γ src f (i + 1) S2).bindB fun r S3 => .ok (y :: r) S3
          | _ => .bad
        else cloop tg tst elt Γ src f (i + 1) S1
theorem nx_cloop {tg : Tg} {tst : ST} {elt : SE} {Γ : Env} {src : Src} : ∀ (n i : Nat) (S : Sto), NoX (cloop tg tst elt Γ src n i S)
  | 0, _, _ => trivial
  | n + 1, i, S => by
    unfold cloop
    split
    · trivial
    · trivial
    · split
      · trivial
      · refine nx_bindB fun b S1 => ?_
        split
        · refine nx_bindB fun v S2 => ?_
          split
          · exact nx_bindB fun _ _ => trivial
          · trivial
        · exact nx_cloop n (i + 1) S1
def wipeE (Γ : Env) : List Nat → Env
  | [] => Γ
  | v :: vs => (wipeE Γ vs).set v none
def sComp (vs : List Nat) (it : SI) (tg : Tg) (tst : ST) (elt : SE) : SE := fun Γ S => (it Γ S).bind fun src S1 =>
  if fuelOf src ≤ SZ then (cloop tg tst elt (wipeE Γ vs) src (fuelOf src) 0 S1).bind fun r S2 => .ok (.d (.list r)) S2 else .bad
def sYes : ST := fun _ S => .ok true S
section
variable {X : Cx} {W : WX} {σ : L2.St} {H : Hp} {Q : VK} {K : Fx}
theorem lts_nil : PTs X [] (LT X.F W sYes) := ⟨fun pins s σ H Q I ⟨Γ, S, ρ, hS, hE, hp⟩ => pts_nil.run pins s σ H Q I (hp ρ H _ (Ext.refl hS) hS rfl)⟩
theorem lts_one {c : Expr} {t : ST} (h : PT X c (LT X.F W t)) : PTs X [c] (LT X.F W t) := pts_one h
theorem wipe_get {σ : L2.St} {j : Nat} : ∀ {vs : List Nat}, (wipe σ vs)[j]? = if j ∈ vs then σ[j]?.map (fun _ => none) else σ[j]?
  | [] => by simp [wipe]
  | v :: vs => by
    unfold wipe
    by_cases h : v = j
    · subst h
      rw [if_pos List.mem_cons_self]
      by_cases hl : v < σ.length
      · rw [List.getElem?_set_self (by rw [wipe_length]; exact hl), List.getElem?_eq_getElem hl]
        rfl
      · rw [List.getElem?_eq_none (by simp [wipe_length]; omega), List.getElem?_eq_none (by omega)]
        rfl
    · rw [List.getElem?_set_ne h, wipe_get (vs := vs)]
      by_cases hm : j ∈ vs
      · rw [if_pos hm, if_pos (List.mem_cons_of_mem _ hm)]
      · rw [if_neg hm, if_neg]
        intro z
        rcases List.mem_cons.mp z with z | z
        · exact h z.symm
        · exact hm z
theorem wipe_same {σ σ' : L2.St} {is vs : List Nat} (w : WSame is (wipe σ vs) σ') (h : ∀ i ∈ is, i ∈ vs) : wipe σ' vs = wipe σ vs := by
  apply List.ext_getElem?
  intro j
  have hlen := w.1
  rw [wipe_length] at hlen
  rw [wipe_get, wipe_get]
  by_cases hm : j ∈ vs
  · rw [if_pos hm, if_pos hm]
    by_cases hl : j < σ.length
    · rw [List.getElem?_eq_getElem hl, List.getElem?_eq_getElem (by omega)]
      rfl
    · rw [List.getElem?_eq_none (by omega), List.getElem?_eq_none (by omega)]
  · rw [if_neg hm, if_neg hm]
    have := w.2 j (fun z => hm (h j z))
    rw [this, wipe_get, if_neg hm]
theorem EnR.wipe {ρ : Pl} {Γ : Env} (h : EnR K H ρ σ Γ) : ∀ vs : List Nat, EnR K H ρ (wipe σ vs) (wipeE Γ vs)
  | [] => h
  | v :: vs => (EnR.wipe h vs).setNone
def sCompN (vs : List Nat) (it : SI) (tg : Tg) (tst : ST) (elt : SE) : SE := fun Γ S => (it Γ S).bind fun src S1 =>
  if fuelOf src ≤ SZ then (cloop tg tst elt (wipeE Γ vs) src (fuelOf src) 0 S1).bind fun r S2 => .ok (.o S2.length) (S2 ++ [.lst r]) else .bad
/-- nothing may be raised here -/
abbrev WF : WX := fun _ _ _ _ => False
theorem lt_ok {K : Fx} {t : ST} {Γ : Env} {S S1 : Sto} {ρ : Pl} {σ : L2.St} {b : Bool} {Q : Bool → Hp → Prop} (hS : StR K ρ S H) (hE : EnR K H ρ σ Γ) (e : t Γ S = .ok b S1) (h : ∀ ρ1 H1, Ext ρ H ρ1 H1 → StR K ρ1 S1 H1 → Q b H1) : LT K W t σ H Q := ⟨Γ, S, ρ, hS, hE, by rw [e]; exact fun ρ1 H1 x x1 hS1 q => by cases q; exact h ρ1 H1 x1 hS1⟩
/-- the made list stands apart at the end -/
theorem le_compA {vs is : List Nat} {tg : Tg} {tst : ST} {elt : SE} (hv : ∀ i ∈ is, i ∈ vs) {Γ : Env} {S1 S' : Sto} {ρ1 : Pl} {H1 : Hp} {J : It} {src : Src} {res : List PyData} (hS1 : StR K ρ1 S1 H1) (hE1 : EnR K H1 ρ1 σ Γ) (hJ : SrcR K J ρ1 H1 src) (hz : fuelOf src ≤ SZ)
    (hl : cloop tg tst elt (wipeE Γ vs) src (fuelOf src) 0 S1 = .ok res S') (D : Addr) (hD : H1 D = none)
    (hc : ∀ ρ2 H2 xs, Ext ρ1 H1 ρ2 H2 → D ∈ ρ2.m → D ∉ ρ2.own → StR K ρ2 S' H2 → H2 D = some (.lst xs) → RpL K H2 ρ2.m xs res → Q (.ref D) H2) :
    ∃ W : Nat → Nat → Hp → Prop, (∃ m, W 0 m (upd H1 D (.lst []))) ∧ ∀ i m H, W i m H →
      (J.stop i H ∧ Q (.ref D) H) ∨ (J.go i H ∧ ∃ Nx : Hp → Prop, (∀ H', Nx H' → ∃ m', m' < m ∧ W (i + 1) m' H') ∧ ∀ x H', J.yld i H x H' → LG K is tg x (wipe σ vs) H' fun σ2 H2 => wipe σ2 vs = wipe σ vs ∧ LT K WF tst σ2 H2 fun b H3 =>
        if b = true then LE K WF elt σ2 H3 fun y H4 => ∃ acc, H4 D = some (.lst acc) ∧ acc.length < sizeLine ∧ Nx (upd H4 D (.lst (acc ++ [y]))) else Nx H3) := by
  have hDn := hS1.notin hD
  have hDρ := hS1.notad hD
  refine ⟨fun i m H2 => ∃ S2 ρ2 acc xs r, StR K ρ2 S2 H2 ∧ D ∈ ρ2.m ∧ D ∉ ρ2.own ∧ Ext ρ1 H1 ρ2 H2 ∧ i + m = fuelOf src ∧ cloop tg tst elt (wipeE Γ vs) src m i S2 = .ok r S' ∧ H2 D = some (.lst xs) ∧ RpL K H2 ρ2.m xs acc ∧ acc.length ≤ i ∧ acc ++ r = res, ?_, ?_⟩
  · obtain ⟨g1, g2⟩ := hS1.apart (o := .lst []) hD
    exact ⟨fuelOf src, S1, _, [], [], res, g1, List.mem_append_right _ List.mem_cons_self, hDρ, g2, by omega, hl, upd_same, .nil, Nat.le_refl _, rfl⟩
  · rintro i m H2 ⟨S2, ρ2, acc, xs, r, gS, gDm, gDa, gx, em, gl, gD, gr, gle, ge⟩
    obtain ⟨go, stop⟩ := src_go hJ gx gS
    have hEw : EnR K H2 ρ2 (wipe σ vs) (wipeE Γ vs) := (hE1.wipe vs).ext gx
    cases m with
    | zero => cases gl
    | succ m =>
      unfold cloop at gl
      split at gl
      · cases gl
      · rename_i e
        cases gl
        rw [List.append_nil] at ge
        subst ge
        exact .inl ⟨stop i e, hc ρ2 H2 xs gx gDm gDa gS gD gr⟩
      · rename_i d e
        split at gl
        · cases gl
        · rename_i Γ2 ht
          obtain ⟨b, S4, e4, gl⟩ := R.bindB_ok gl
          obtain ⟨hgo, hy⟩ := go i d e
          refine .inr ⟨hgo, fun H' => ∃ S2 ρ2 acc xs r, StR K ρ2 S2 H' ∧ D ∈ ρ2.m ∧ D ∉ ρ2.own ∧ Ext ρ1 H1 ρ2 H' ∧ (i + 1) + m = fuelOf src ∧ cloop tg tst elt (wipeE Γ vs) src m (i + 1) S2 = .ok r S' ∧ H' D = some (.lst xs) ∧ RpL K H' ρ2.m xs acc ∧ acc.length ≤ i + 1 ∧ acc ++ r = res, fun H' hN => ⟨m, Nat.lt_succ_self _, hN⟩, fun x H3 hx => ?_⟩
          obtain ⟨hg, hr⟩ := hy x H3 hx
          obtain ⟨gS3, gx3⟩ := grown gS hg
          refine ⟨wipeE Γ vs, S2, ρ2, d, Γ2, gS3, hEw.ext gx3, hr, ht, fun σ' hE' hw => ⟨wipe_same hw hv, ?_⟩⟩
          refine lt_ok gS3 hE' e4 fun ρ4 H4 gx4 gS4 => ?_
          have x4 : Ext ρ2 H2 ρ4 H4 := gx3.trans gx4
          obtain ⟨d4m, d4a⟩ := x4.stay D gDm gDa
          have gD4 := x4.keep D _ gD (.inl gDa)
          cases b with
          | false =>
            dsimp only
            rw [if_neg Bool.false_ne_true]
            rw [if_neg Bool.false_ne_true] at gl
            exact ⟨S4, ρ4, acc, xs, r, gS4, d4m, d4a, gx.trans x4, by omega, gl, gD4, RpL.cov x4.cov _ _ gr, by omega, ge⟩
          | true =>
            dsimp only
            rw [if_pos rfl]
            rw [if_pos rfl] at gl
            obtain ⟨v, S5, e5, gl⟩ := R.bindB_ok gl
            refine le_ok gS4 (hE'.ext gx4) e5 fun ρ5 H5 y gx5 gS5 hy5 => ?_
            split at gl
            · rename_i yd
              obtain ⟨r', S6, e6, gl⟩ := R.bindB_ok gl
              cases gl
              have x5 : Ext ρ2 H2 ρ5 H5 := x4.trans gx5
              obtain ⟨d5m, d5a⟩ := x5.stay D gDm gDa
              have hD5 := x5.keep D _ gD (.inl gDa)
              have gr5 := RpL.cov x5.cov _ _ gr
              refine ⟨xs, hD5, ?_, ?_⟩
              · rw [gr5.length, ← SZ_eq]
                omega
              · obtain ⟨s5, cv5⟩ := gS5.apartSet (o := .lst (xs ++ [y])) d5m d5a
                have x6 := gx.trans x5
                refine ⟨S5, ρ5, acc ++ [yd], xs ++ [y], r', s5, d5m, d5a, ⟨x6.slk, x6.ownk, fun a o ea hn => ?_, x6.out, x6.stay, fun a ha => ?_⟩, by omega, e6, upd_same, RpL.cov cv5 _ _ (gr5.snoc hy5), by rw [List.length_append]; show acc.length + 1 ≤ i + 1; omega, by rw [List.append_assoc]; exact ge⟩
                · have hne : a ≠ D := fun z => by rw [z, hD] at ea; cases ea
                  rw [upd_ne hne]
                  exact x6.keep a o ea hn
                · by_cases z : a = D
                  · rw [z, upd_same]; exact fun z => by cases z
                  · rw [upd_ne z]; exact x6.trk a ha
            · cases gl
theorem notm_of {ρ : Pl} {H1 : Hp} {ρ1 : Pl} (x : Ext ρ H ρ1 H1) {D : Addr} (hD : H1 D = none) : H D = none := by
  cases e9 : H D with
  | none => rfl
  | some o => exact absurd hD (x.trk D (by rw [e9]; exact fun z => nomatch z))
theorem less_ext {ρ ρ2 : Pl} {H2 : Hp} {S : Sto} (hS : StR K ρ S H) (gx : Ext ρ H ρ2 H2) {D : Addr} (hD : H D = none) : Ext ρ H (ρ2.less [D]) H2 :=
  ⟨gx.slk, gx.ownk, gx.keep, fun a o e n z => gx.out a o e n (less_mem.mp z).1, fun a ha hn => ⟨less_mem.mpr ⟨(gx.stay a ha hn).1, fun z => hS.tk a ha (by rw [List.mem_singleton.mp z]; exact hD)⟩, (gx.stay a ha hn).2⟩, gx.trk⟩
theorem le_comp {vs is : List Nat} {it : SI} {tg : Tg} {tst : ST} {elt : SE} (hv : ∀ i ∈ is, i ∈ vs) (h : LE K W (sComp vs it tg tst elt) σ H Q) : tLc (LI K W it) (LG K is tg) (LT K WF tst) (LE K WF elt) vs σ H Q := by
  obtain ⟨Γ, S, ρ, hS, hE, hp⟩ := h
  refine ⟨Γ, S, ρ, hS, hE, Pst.bind hp fun src S1 ρ1 H1 J _ x1 hS1 hJ hp => ?_⟩
  split at hp
  · rename_i hz
    intro D hD
    cases hl : cloop tg tst elt (wipeE Γ vs) src (fuelOf src) 0 S1 with
    | ok res S3 =>
      rw [hl] at hp
      refine le_compA hv hS1 (hE.ext x1) hJ hz hl D hD fun ρ2 H2 xs gx gDm gDa gS gD gr => ?_
      have hDm : D ∉ (ρ2.less [D]).m := fun z => (less_mem.mp z).2 List.mem_cons_self
      exact hp (ρ2.less [D]) H2 (.ref D) (less_ext hS1 gx hD) (gS.apartEnd gDa) (show Rp _ _ _ _ _ from .lst ⟨gD, hDm⟩ (RpL.cov less_cov _ _ gr))
    | exc c fs S3 =>
      have := nx_cloop (tg := tg) (tst := tst) (elt := elt) (Γ := wipeE Γ vs) (src := src) (fuelOf src) 0 S1
      rw [hl] at this
      exact this.elim
    | bad =>
      rw [hl] at hp
      exact hp.elim
  · exact hp.elim
/-- a list apart becomes an object of the store -/
def Pl.take (ρ : Pl) (D : Addr) : Pl := ⟨ρ.sl ++ [(D, [])], ρ.m⟩
theorem take_own {ρ : Pl} {D : Addr} : (ρ.take D).own = ρ.own ++ [D] := ownS_app _ _
theorem take_ok {ρ ρ2 : Pl} {H2 : Hp} {S S3 : Sto} {D : Addr} {xs : List V} {res : List PyData} (hS : StR K ρ S H) (gx : Ext ρ H ρ2 H2) (hDH : H D = none) (gDm : D ∈ ρ2.m) (gDa : D ∉ ρ2.own) (gS : StR K ρ2 S3 H2) (gD : H2 D = some (.lst xs)) (gr : RpL K H2 ρ2.m xs res) :
    Ext ρ H (ρ2.take D) H2 ∧ StR K (ρ2.take D) (S3 ++ [.lst res]) H2 ∧ (ρ2.take D).ad[S3.length]? = some D := by
  refine ⟨⟨fun n a l h => by
      obtain ⟨l1, h1⟩ := gx.slk n a l h
      obtain ⟨l2, h2⟩ := sl_app (t := [(D, [])]) h1
      exact ⟨l1 ++ l2, by rw [← List.append_assoc]; exact h2⟩, fun a ha => ?_, fun a o e hn => gx.keep a o e hn, gx.out, fun a ha hn => ⟨(gx.stay a ha hn).1, fun z => ?_⟩, gx.trk⟩, ⟨?_, gS.tk, fun a ha => ?_, pairedAppend gS.all (.cons ⟨gDm, xs, gD, gr⟩ .nil)⟩, ?_⟩
  · rw [take_own] at ha
    rcases List.mem_append.mp ha with ha | ha
    · exact gx.ownk a ha
    · rw [List.mem_singleton.mp ha]; exact .inr hDH
  · rw [take_own] at z
    rcases List.mem_append.mp z with z | z
    · exact (gx.stay a ha hn).2 z
    · exact hS.tk a ha (by rw [List.mem_singleton.mp z]; exact hDH)
  · rw [take_own, List.nodup_append]
    refine ⟨gS.nd, List.nodup_cons.mpr ⟨by simp, List.nodup_nil⟩, fun a ha b hb z => ?_⟩
    rw [List.mem_singleton.mp hb] at z
    exact gDa (z ▸ ha)
  · rw [take_own] at ha
    rcases List.mem_append.mp ha with ha | ha
    · exact gS.tka a ha
    · rw [List.mem_singleton.mp ha, gD]; exact fun z => by cases z
  · refine ad_at.mpr ⟨[], ?_⟩
    show (ρ2.sl ++ [(D, [])])[S3.length]? = some (D, [])
    rw [← gS.len, List.getElem?_append_right (Nat.le_refl _), Nat.sub_self]
    rfl
theorem le_compN {vs is : List Nat} {it : SI} {tg : Tg} {tst : ST} {elt : SE} (hv : ∀ i ∈ is, i ∈ vs) (h : LE K W (sCompN vs it tg tst elt) σ H Q) : tLc (LI K W it) (LG K is tg) (LT K WF tst) (LE K WF elt) vs σ H Q := by
  obtain ⟨Γ, S, ρ, hS, hE, hp⟩ := h
  refine ⟨Γ, S, ρ, hS, hE, Pst.bind hp fun src S1 ρ1 H1 J _ x1 hS1 hJ hp => ?_⟩
  split at hp
  · rename_i hz
    intro D hD
    cases hl : cloop tg tst elt (wipeE Γ vs) src (fuelOf src) 0 S1 with
    | ok res S3 =>
      rw [hl] at hp
      refine le_compA hv hS1 (hE.ext x1) hJ hz hl D hD fun ρ2 H2 xs gx gDm gDa gS gD gr => ?_
      obtain ⟨g1, g2, g3⟩ := take_ok hS1 gx hD gDm gDa gS gD gr
      exact hp _ H2 (.ref D) g1 g2 ⟨D, g3, rfl⟩
    | exc c fs S3 =>
      have := nx_cloop (tg := tg) (tst := tst) (elt := elt) (Γ := wipeE Γ vs) (src := src) (fuelOf src) 0 S1
      rw [hl] at this
      exact this.elim
    | bad =>
      rw [hl] at hp
      exact hp.elim
  · exact hp.elim
end
end L2.Pv

set_option Elab.async false
set_option linter.all false
set_option maxRecDepth 100000
namespace L2.Pv
open PySem PySem.Spec PyProof.Rows L2

/-! ### list comprehensions of two clauses -/
def cloop2 (tg : Tg) (tst : ST) (it1 : SI) (tg1 : Tg) (tst1 : ST) (elt : SE) (vs1 : List Nat) (Γ : Env) (src : Src) : Nat → Nat → Sto → R (List PyData)
  | 0, _, _ => .bad
  | f + 1, i, S => match nxt src S i with
    | none => .bad
    | some none => .ok [] S
    | some (some d) => match tg d Γ with
      | none => .bad
      | some Γ2 => (tst Γ2 S).bindB fun b S1 => if b = true then (it1 Γ2 S1).bindB fun src1 S2 =>
          (cloop tg1 tst1 elt (wipeE Γ2 vs1) src1 (fuelOf src1) 0 S2).bindB fun r1 S3 => (cloop2 tg tst it1 tg1 tst1 elt vs1 Γ src f (i + 1) S3).bindB fun r S4 => .ok (r1 ++ r) S4
        else cloop2 tg tst it1 tg1 tst1 elt vs1 Γ src f (i + 1) S1
theorem nx_cloop2 {tg : Tg} {tst : ST} {it1 : SI} {tg1 : Tg} {tst1 : ST} {elt : SE} {vs1 : List Nat} {Γ : Env} {src : Src} : ∀ (n i : Nat) (S : Sto), NoX (cloop2 tg tst it1 tg1 tst1 elt vs1 Γ src n i S)
  | 0, _, _ => trivial
  | n + 1, i, S => by
    unfold cloop2
    split
    · trivial
    · trivial
    · split
      · trivial
      · refine nx_bindB fun b S1 => ?_
        split
        · exact nx_bindB fun src1 S2 => nx_bindB fun r1 S3 => nx_bindB fun _ _ => trivial
        · exact nx_cloop2 n (i + 1) S1
def sComp2 (vs vs1 : List Nat) (it : SI) (tg : Tg) (tst : ST) (it1 : SI) (tg1 : Tg) (tst1 : ST) (elt : SE) : SE := fun Γ S => (it Γ S).bind fun src S1 =>
  (cloop2 tg tst it1 tg1 tst1 elt vs1 (wipeE Γ vs) src (fuelOf src) 0 S1).bind fun r S2 => if r.length ≤ SZ then .ok (.d (.list r)) S2 else .bad
section
variable {X : Cx} {W : WX} {σ : L2.St} {H : Hp} {Q : VK} {K : Fx}
/-- a later state, but for what may change -/
structure Wx (ρ : Pl) (H : Hp) (ρ' : Pl) (H' : Hp) : Prop where
  cov : Cov ρ.m H ρ'.m H'
  ad : ∀ (n : Nat) (a : Addr), ρ.ad[n]? = some a → ρ'.ad[n]? = some a
theorem Wx.refl {ρ : Pl} {H : Hp} : Wx ρ H ρ H := ⟨⟨fun _ _ h _ => h, fun _ _ _ n => n⟩, fun _ _ h => h⟩
theorem Wx.ext {ρ ρ1 ρ2 : Pl} {H H1 H2 : Hp} (w : Wx ρ H ρ1 H1) (x : Ext ρ1 H1 ρ2 H2) : Wx ρ H ρ2 H2 :=
  ⟨⟨fun a o e n => x.cov.keep a o (w.cov.keep a o e n) (w.cov.out a o e n), fun a o e n => x.cov.out a o (w.cov.keep a o e n) (w.cov.out a o e n)⟩, fun n a h => x.ad (w.ad n a h)⟩
theorem Wx.put {ρ ρ1 : Pl} {H H1 : Hp} {D : Addr} {o : HO} (w : Wx ρ H ρ1 H1) (hm : D ∈ ρ.m) : Wx ρ H ρ1 (upd H1 D o) :=
  ⟨⟨fun a u e n => by rw [upd_ne (fun z => n (by rw [z]; exact hm))]; exact w.cov.keep a u e n, w.cov.out⟩, w.ad⟩
theorem Vr.wx {ρ ρ' : Pl} {H H' : Hp} (x : Wx ρ H ρ' H') {v : Vl} {z : V} (h : Vr K H ρ z v) : Vr K H' ρ' z v := by
  cases v with
  | d d => exact Rp.cov x.cov _ _ h
  | o n =>
    obtain ⟨a, h1, h2⟩ := h
    exact ⟨a, x.ad _ _ h1, h2⟩
  | k ds =>
    obtain ⟨a, xs, h1, h2, h3⟩ := h
    exact ⟨a, xs, h1, h2.cov x.cov, RpL.cov x.cov _ _ h3⟩
  | x c gs =>
    obtain ⟨p, C, h1, h2, h3, h4, h5⟩ := h
    exact ⟨p, C, h1, h2, h3, h4, h5.cov x.cov⟩
theorem EnR.wx {ρ ρ' : Pl} {H H' : Hp} (x : Wx ρ H ρ' H') {Γ : Env} (h : EnR K H ρ σ Γ) : EnR K H' ρ' σ Γ := pairedMono h fun _ _ _ q v e => let ⟨z, h1, h2⟩ := q v e; ⟨z, h1, h2.wx x⟩
theorem src_goW {ρ ρ2 : Pl} {H H2 : Hp} {S2 : Sto} {J : It} {src : Src} (h : SrcR K J ρ H src) (x : Wx ρ H ρ2 H2) (hS : StR K ρ2 S2 H2) :
    (∀ i d, nxt src S2 i = some (some d) → J.go i H2 ∧ ∀ x H3, J.yld i H2 x H3 → (H3 = H2 ∨ ∃ T o, H2 T = none ∧ H3 = upd H2 T o) ∧ Rp K H3 ρ2.m x d) ∧ ∀ i, nxt src S2 i = some none → J.stop i H2 := by
  have h2 : SrcR K J ρ2 H2 src := by
    cases src with
    | its ds =>
      intro m1 H3 cv ht
      exact h m1 H3 ⟨fun a o e n => cv.keep a o (x.cov.keep a o e n) (x.cov.out a o e n), fun a o e n => cv.out a o (x.cov.keep a o e n) (x.cov.out a o e n)⟩ ht
    | ob n =>
      obtain ⟨a, h1, h2⟩ := h
      exact ⟨a, x.ad _ _ h1, h2⟩
    | rv n len =>
      obtain ⟨a, h1, h2⟩ := h
      exact ⟨a, x.ad _ _ h1, h2⟩
  exact src_go h2 (Ext.refl hS) hS
/-- what has been done to the list that is made -/
theorem acc_put {ρ : Pl} {S : Sto} {D : Addr} {acc : List PyData} {xs : List V} {y : V} {yd : PyData} (gS : StR K ρ S H) (dm : D ∈ ρ.m) (da : D ∉ ρ.own) (gr : RpL K H ρ.m xs acc) (hy : Rp K H ρ.m y yd) :
    StR K ρ S (upd H D (.lst (xs ++ [y]))) ∧ RpL K (upd H D (.lst (xs ++ [y]))) ρ.m (xs ++ [y]) (acc ++ [yd]) := by
  obtain ⟨s5, cv5⟩ := gS.apartSet (o := .lst (xs ++ [y])) dm da
  exact ⟨s5, RpL.cov cv5 _ _ (gr.snoc hy)⟩
theorem ext_put {ρ1 ρ5 : Pl} {H1 H5 : Hp} {D : Addr} {o : HO} (x6 : Ext ρ1 H1 ρ5 H5) (hD : H1 D = none) : Ext ρ1 H1 ρ5 (upd H5 D o) := by
  refine ⟨x6.slk, x6.ownk, fun a o ea hn => ?_, x6.out, x6.stay, fun a ha => ?_⟩
  · have hne : a ≠ D := fun z => by rw [z, hD] at ea; cases ea
    rw [upd_ne hne]
    exact x6.keep a o ea hn
  · by_cases z : a = D
    · rw [z, upd_same]; exact fun z => by cases z
    · rw [upd_ne z]; exact x6.trk a ha
theorem le_comp2 {vs vs1 is is1 : List Nat} {it it1 : SI} {tg tg1 : Tg} {tst tst1 : ST} {elt : SE} (hv : ∀ i ∈ is, i ∈ vs) (hv1 : ∀ i ∈ is1, i ∈ vs1) (h : LE K W (sComp2 vs vs1 it tg tst it1 tg1 tst1 elt) σ H Q) :
    tLc2 (LI K W it) (LG K is tg) (LT K WF tst) (LI K WF it1) (LG K is1 tg1) (LT K WF tst1) (LE K WF elt) vs vs1 σ H Q := by
  obtain ⟨Γ, S, ρ, hS, hE, hp⟩ := h
  refine ⟨Γ, S, ρ, hS, hE, Pst.bind hp fun src S1 ρ1 H1 J _ x1 hS1 hJ hp D hD => ?_⟩
  cases hl : cloop2 tg tst it1 tg1 tst1 elt vs1 (wipeE Γ vs) src (fuelOf src) 0 S1 with
  | bad =>
    rw [hl] at hp
    exact hp.elim
  | exc c fs S3 =>
    have := nx_cloop2 (tg := tg) (tst := tst) (it1 := it1) (tg1 := tg1) (tst1 := tst1) (elt := elt) (vs1 := vs1) (Γ := wipeE Γ vs) (src := src) (fuelOf src) 0 S1
    rw [hl] at this
    exact this.elim
  | ok res S' =>
  rw [hl] at hp
  have hp : Pst K (WE W σ) (Vr K) ρ1 H1 (if res.length ≤ SZ then R.ok (Vl.d (PyData.list res)) S' else R.bad) Q := hp
  split at hp
  case isFalse => exact hp.elim
  rename_i hz
  have hc : ∀ ρ2 H2 D xs, Ext ρ1 H1 ρ2 H2 → H1 D = none → D ∈ ρ2.m → D ∉ ρ2.own → StR K ρ2 S' H2 → H2 D = some (.lst xs) → RpL K H2 ρ2.m xs res → Q (.ref D) H2 := fun ρ2 H2 D xs gx hDH gDm gDa gS gD gr => by
    have hDm : D ∉ (ρ2.less [D]).m := fun z => (less_mem.mp z).2 List.mem_cons_self
    exact hp (ρ2.less [D]) H2 (.ref D) (less_ext hS1 gx hDH) (gS.apartEnd gDa) (show Rp _ _ _ _ _ from .lst ⟨gD, hDm⟩ (RpL.cov less_cov _ _ gr))
  have hDn := hS1.notin hD
  have hDρ := hS1.notad hD
  have hE1 := hE.ext x1
  refine ⟨fun i m H2 => ∃ S2 ρ2 acc xs r, StR K ρ2 S2 H2 ∧ D ∈ ρ2.m ∧ D ∉ ρ2.own ∧ Ext ρ1 H1 ρ2 H2 ∧ cloop2 tg tst it1 tg1 tst1 elt vs1 (wipeE Γ vs) src m i S2 = .ok r S' ∧ H2 D = some (.lst xs) ∧ RpL K H2 ρ2.m xs acc ∧ acc ++ r = res, ?_, ?_⟩
  · obtain ⟨g1, g2⟩ := hS1.apart (o := .lst []) hD
    exact ⟨fuelOf src, S1, _, [], [], res, g1, List.mem_append_right _ List.mem_cons_self, hDρ, g2, hl, upd_same, .nil, rfl⟩
  · rintro i m H2 ⟨S2, ρ2, acc, xs, r, gS, gDm, gDa, gx, gl, gD, gr, ge⟩
    obtain ⟨go, stop⟩ := src_go hJ gx gS
    have hEw : EnR K H2 ρ2 (wipe σ vs) (wipeE Γ vs) := (hE1.wipe vs).ext gx
    cases m with
    | zero => cases gl
    | succ m =>
      unfold cloop2 at gl
      split at gl
      · cases gl
      · rename_i e
        cases gl
        rw [List.append_nil] at ge
        subst ge
        exact .inl ⟨stop i e, hc ρ2 H2 D xs gx hD gDm gDa gS gD gr⟩
      · rename_i d e
        split at gl
        · cases gl
        · rename_i Γ2 ht
          obtain ⟨b, S4, e4, gl⟩ := R.bindB_ok gl
          obtain ⟨hgo, hy⟩ := go i d e
          refine .inr ⟨hgo, fun H' => ∃ S2 ρ2 acc xs r, StR K ρ2 S2 H' ∧ D ∈ ρ2.m ∧ D ∉ ρ2.own ∧ Ext ρ1 H1 ρ2 H' ∧ cloop2 tg tst it1 tg1 tst1 elt vs1 (wipeE Γ vs) src m (i + 1) S2 = .ok r S' ∧ H' D = some (.lst xs) ∧ RpL K H' ρ2.m xs acc ∧ acc ++ r = res, fun H' hN => ⟨m, Nat.lt_succ_self _, hN⟩, fun x H3 hx => ?_⟩
          obtain ⟨hg, hr⟩ := hy x H3 hx
          obtain ⟨gS3, gx3⟩ := grown gS hg
          refine ⟨wipeE Γ vs, S2, ρ2, d, Γ2, gS3, hEw.ext gx3, hr, ht, fun σ' hE' hw => ⟨wipe_same hw hv, ?_⟩⟩
          refine lt_ok gS3 hE' e4 fun ρ4 H4 gx4 gS4 => ?_
          have x4 : Ext ρ2 H2 ρ4 H4 := gx3.trans gx4
          obtain ⟨d4m, d4a⟩ := x4.stay D gDm gDa
          have gD4 := x4.keep D _ gD (.inl gDa)
          cases b with
          | false =>
            dsimp only
            rw [if_neg Bool.false_ne_true]
            rw [if_neg Bool.false_ne_true] at gl
            exact ⟨S4, ρ4, acc, xs, r, gS4, d4m, d4a, gx.trans x4, gl, gD4, RpL.cov x4.cov _ _ gr, ge⟩
          | true =>
            dsimp only
            rw [if_pos rfl]
            rw [if_pos rfl] at gl
            obtain ⟨src1, S5, e5, gl⟩ := R.bindB_ok gl
            obtain ⟨r1, S6, e6, gl⟩ := R.bindB_ok gl
            obtain ⟨r2, S7, e7, gl⟩ := R.bindB_ok gl
            cases gl
            refine ⟨Γ2, S4, ρ4, gS4, hE'.ext gx4, ?_⟩
            rw [e5]
            intro ρ5 H5 J1 gx5 gS5 hJ1
            have x5 : Ext ρ2 H2 ρ5 H5 := x4.trans gx5
            obtain ⟨d5m, d5a⟩ := x5.stay D gDm gDa
            have gD5 := x5.keep D _ gD (.inl gDa)
            have gr5 := RpL.cov x5.cov _ _ gr
            have hE5 := (hE'.ext gx4).ext gx5
            refine ⟨fun j k H6 => ∃ S8 ρ6 acc1 xs1 r3, StR K ρ6 S8 H6 ∧ D ∈ ρ6.m ∧ D ∉ ρ6.own ∧ Wx ρ5 H5 ρ6 H6 ∧ Ext ρ1 H1 ρ6 H6 ∧ cloop tg1 tst1 elt (wipeE Γ2 vs1) src1 k j S8 = .ok r3 S6 ∧ H6 D = some (.lst xs1) ∧ RpL K H6 ρ6.m xs1 (acc ++ acc1) ∧ acc1 ++ r3 = r1, ?_, ?_⟩
            · exact ⟨fuelOf src1, S5, ρ5, [], xs, r1, gS5, d5m, d5a, Wx.refl, gx.trans x5, e6, gD5, by rw [List.append_nil]; exact gr5, rfl⟩
            · rintro j k H6 ⟨S8, ρ6, acc1, xs1, r3, kS, kDm, kDa, kw, kx, kl, kD, kr, ke⟩
              obtain ⟨go1, stop1⟩ := src_goW hJ1 kw kS
              have hE6 : EnR K H6 ρ6 (wipe σ' vs1) (wipeE Γ2 vs1) := (hE5.wipe vs1).wx kw
              cases k with
              | zero => cases kl
              | succ k =>
                unfold cloop at kl
                split at kl
                · cases kl
                · rename_i e8
                  cases kl
                  rw [List.append_nil] at ke
                  subst ke
                  exact .inl ⟨stop1 j e8, S6, ρ6, acc ++ acc1, xs1, r2, kS, kDm, kDa, kx, e7, kD, kr, by rw [List.append_assoc]; exact ge⟩
                · rename_i d1 e8
                  split at kl
                  · cases kl
                  · rename_i Γ3 ht1
                    obtain ⟨b1, S9, e9, kl⟩ := R.bindB_ok kl
                    obtain ⟨hgo1, hy1⟩ := go1 j d1 e8
                    refine .inr ⟨hgo1, fun H' => ∃ S8 ρ6 acc1 xs1 r3, StR K ρ6 S8 H' ∧ D ∈ ρ6.m ∧ D ∉ ρ6.own ∧ Wx ρ5 H5 ρ6 H' ∧ Ext ρ1 H1 ρ6 H' ∧ cloop tg1 tst1 elt (wipeE Γ2 vs1) src1 k (j + 1) S8 = .ok r3 S6 ∧ H' D = some (.lst xs1) ∧ RpL K H' ρ6.m xs1 (acc ++ acc1) ∧ acc1 ++ r3 = r1, fun H' hN => ⟨k, Nat.lt_succ_self _, hN⟩, fun x1 H7 hx1 => ?_⟩
                    obtain ⟨hg1, hr1⟩ := hy1 x1 H7 hx1
                    obtain ⟨kS7, kx7⟩ := grown kS hg1
                    refine ⟨wipeE Γ2 vs1, S8, ρ6, d1, Γ3, kS7, hE6.ext kx7, hr1, ht1, fun σ3 hE3 hw3 => ⟨wipe_same hw3 hv1, ?_⟩⟩
                    refine lt_ok kS7 hE3 e9 fun ρ8 H8 kx8 kS8 => ?_
                    have y8 : Ext ρ6 H6 ρ8 H8 := kx7.trans kx8
                    obtain ⟨d8m, d8a⟩ := y8.stay D kDm kDa
                    have kD8 := y8.keep D _ kD (.inl kDa)
                    have kr8 := RpL.cov y8.cov _ _ kr
                    cases b1 with
                    | false =>
                      dsimp only
                      rw [if_neg Bool.false_ne_true]
                      rw [if_neg Bool.false_ne_true] at kl
                      exact ⟨S9, ρ8, acc1, xs1, r3, kS8, d8m, d8a, kw.ext y8, kx.trans y8, kl, kD8, kr8, ke⟩
                    | true =>
                      dsimp only
                      rw [if_pos rfl]
                      rw [if_pos rfl] at kl
                      obtain ⟨v1, S10, e10, kl⟩ := R.bindB_ok kl
                      refine le_ok kS8 (hE3.ext kx8) e10 fun ρ9 H9 y kx9 kS9 hy9 => ?_
                      split at kl
                      · rename_i yd
                        obtain ⟨r', S11, e11, kl⟩ := R.bindB_ok kl
                        cases kl
                        have y9 : Ext ρ6 H6 ρ9 H9 := y8.trans kx9
                        obtain ⟨d9m, d9a⟩ := y9.stay D kDm kDa
                        have kD9 := y9.keep D _ kD (.inl kDa)
                        have kr9 := RpL.cov y9.cov _ _ kr
                        refine ⟨xs1, kD9, ?_, ?_⟩
                        · rw [kr9.length, ← SZ_eq]
                          rw [← ge, ← ke, List.length_append, List.length_append, List.length_append, List.length_cons] at hz
                          rw [List.length_append]
                          omega
                        · obtain ⟨s5, cv5⟩ := kS9.apartSet (o := .lst (xs1 ++ [y])) d9m d9a
                          refine ⟨S10, ρ9, acc1 ++ [yd], xs1 ++ [y], r', s5, d9m, d9a, (kw.ext y9).put d5m, ext_put (kx.trans y9) hD, e11, upd_same, ?_, by rw [List.append_assoc]; exact ke⟩
                          rw [← List.append_assoc]
                          exact RpL.cov cv5 _ _ (kr9.snoc hy9)
                      · cases kl
end
end L2.Pv

set_option Elab.async false
set_option linter.all false
set_option maxRecDepth 100000
namespace L2.Pv
open PySem PySem.Spec PyProof.Rows L2

/-! ### statements -/
inductive Fl where
  | nx (Γ : Env)
  | rt (v : Vl)
  | bk (Γ : Env)
  | ct (Γ : Env)
abbrev SS := Env → Sto → R Fl
def SC (K : Fx) (ρ : Pl) (H : Hp) (S' : Sto) (D : Ends) : Fl → Prop
  | .nx Γ' => ∀ ρ' H' σ', Ext ρ H ρ' H' → StR K ρ' S' H' → EnR K H' ρ' σ' Γ' → D.nx σ' H'
  | .rt v => ∀ ρ' H' x, Ext ρ H ρ' H' → StR K ρ' S' H' → Vr K H' ρ' x v → D.rt x H'
  | .bk Γ' => ∀ ρ' H' σ', Ext ρ H ρ' H' → StR K ρ' S' H' → EnR K H' ρ' σ' Γ' → D.bk σ' H'
  | .ct Γ' => ∀ ρ' H' σ', Ext ρ H ρ' H' → StR K ρ' S' H' → EnR K H' ρ' σ' Γ' → D.ct σ' H'
/-- a wish that asks nothing of the slots -/
abbrev WI (E : XK) : WX := fun cls d _ H => E cls d H
def PstS (K : Fx) (E : XK) (D : Ends) (ρ : Pl) (H : Hp) (r : R Fl) : Prop := match r with
  | .ok fl S' => SC K ρ H S' D fl
  | .exc c fs S' => ContX K ρ H S' c fs E
  | .bad => False
def LS (K : Fx) (E : XK) (f : SS) : TS := fun D σ H => ∃ Γ S ρ, StR K ρ S H ∧ EnR K H ρ σ Γ ∧ PstS K E D ρ H (f Γ S)
theorem SC.mono {K : Fx} {ρ ρ1 : Pl} {H H1 : Hp} {S' : Sto} {D : Ends} {fl : Fl} (x : Ext ρ H ρ1 H1) (h : SC K ρ H S' D fl) : SC K ρ1 H1 S' D fl := by
  cases fl with
  | nx Γ => exact fun ρ' H' σ' x' => h ρ' H' σ' (x.trans x')
  | rt v => exact fun ρ' H' σ' x' => h ρ' H' σ' (x.trans x')
  | bk Γ => exact fun ρ' H' σ' x' => h ρ' H' σ' (x.trans x')
  | ct Γ => exact fun ρ' H' σ' x' => h ρ' H' σ' (x.trans x')
/-- lists of its own as data: they change no more -/
theorem OwL.rp {K : Fg} {H : Hp} {m m' : List Addr} : ∀ {l : List Addr} {ds : List PyData}, (∀ b ∈ l, b ∉ m') → (∀ x d, Rp K H m x d → Rp K H m' x d) → (∀ xs ds, RpL K H m xs ds → RpL K H m' xs ds) → OwL K H m l ds → RpL K H m' (l.map V.ref) ds
  | _, _, _, _, _, .nil => .nil
  | _, _, n, c, c2, .cons h1 h2 h3 h4 => .cons (.lst ⟨h2, n _ List.mem_cons_self⟩ (c2 _ _ h3)) (OwL.rp (fun b hb => n b (List.mem_cons_of_mem _ hb)) c c2 h4)
theorem OwD.rp {K : Fg} {H : Hp} {m m' : List Addr} {es : List DictEntry} {l : List Addr} {kds : Kvs} (n : ∀ b ∈ l, b ∉ m') (c : ∀ x d, Rp K H m x d → Rp K H m' x d) (c2 : ∀ xs ds, RpL K H m xs ds → RpL K H m' xs ds) (h : OwD K H m es l kds) : RpD K H m' es kds := by
  induction h with
  | nil => exact .nil
  | @cons e es b l xs ds kd kds k x g1 g2 g3 g4 g5 h1 h2 h3 h4 ih =>
    exact .cons (v := .ref b) g1 g2 g3 (c _ _ g4) (by rw [g5]; rfl) (.lst ⟨h2, n _ List.mem_cons_self⟩ (c2 _ _ h3)) (ih fun b hb => n b (List.mem_cons_of_mem _ hb))
section
variable {α β : Type} {K : Fx} {E : XK} {D : Ends} {rel : Hp → Pl → β → α → Prop} {ρ ρ1 : Pl} {H H1 : Hp}
theorem PstS.mono {r : R Fl} (x : Ext ρ H ρ1 H1) (h : PstS K E D ρ H r) : PstS K E D ρ1 H1 r := by
  cases r with
  | ok v S' => exact SC.mono x h
  | exc c fs S' => exact ContX.mono x h
  | bad => exact h
theorem PstS.bind {r : R α} {f : α → Sto → R Fl} {Q1 : β → Hp → Prop} (h : PstS K E D ρ H (r.bind f)) (k : ∀ v S1 ρ1 H1 x, r = .ok v S1 → Ext ρ H ρ1 H1 → StR K ρ1 S1 H1 → rel H1 ρ1 x v → PstS K E D ρ1 H1 (f v S1) → Q1 x H1) : Pst K E rel ρ H r Q1 := by
  cases r with
  | ok v S1 => exact fun ρ1 H1 x x1 hS1 q1 => k v S1 ρ1 H1 x rfl x1 hS1 q1 (PstS.mono x1 h)
  | exc c fs S1 => exact h
  | bad => exact h
/-- a statement, then what it leaves -/
theorem PstS.then {r : R Fl} {f : Fl → Sto → R Fl} {D1 : Ends} (h : PstS K E D ρ H (r.bind f)) (k : ∀ fl S1, r = .ok fl S1 → PstS K E D ρ H (f fl S1) → SC K ρ H S1 D1 fl) : PstS K E D1 ρ H r := by
  cases r with
  | ok v S1 => exact k v S1 rfl h
  | exc c fs S1 => exact h
  | bad => exact h
end
def sSkip : SS := fun Γ S => .ok (.nx Γ) S
def sThen (f : Fl) (S : Sto) (b : SS) : R Fl := match f with
  | .nx Γ => b Γ S
  | f => .ok f S
def sSeq (a b : SS) : SS := fun Γ S => (a Γ S).bind fun f S1 => sThen f S1 b
def sDrop (e : SE) : SS := fun Γ S => (e Γ S).bind fun _ S1 => .ok (.nx Γ) S1
def sRet (e : SE) : SS := fun Γ S => (e Γ S).bind fun v S1 => .ok (.rt v) S1
def sRetN : SS := fun _ S => .ok (.rt (.d .none)) S
def sIte (c : ST) (a b : SS) : SS := fun Γ S => (c Γ S).bind fun x S1 => if x = true then a Γ S1 else b Γ S1
def sSet (i : Nat) (e : SE) : SS := fun Γ S => (e Γ S).bind fun v S1 => .ok (.nx (Γ.set i (some v))) S1
def sAsg (t : Tg) (e : SE) : SS := fun Γ S => (e Γ S).bind fun v S1 => match v with
  | .d d => match t d Γ with
    | some Γ' => .ok (.nx Γ') S1
    | none => .bad
  | _ => .bad
def sPar (i j : Nat) (a b : SE) : SS := fun Γ S => (a Γ S).bind fun v S1 => (b Γ S1).bind fun w S2 => .ok (.nx ((Γ.set i (some v)).set j (some w))) S2
def sBrk : SS := fun Γ S => .ok (.bk Γ) S
def sCnt : SS := fun Γ S => .ok (.ct Γ) S
def sBad : SS := fun _ _ => .bad
/-- a[i] = e: a list of the store -/
def gPutL (n : Nat) (ds : List PyData) (k d : PyData) (S : Sto) : Option Sto := match k with
  | .int j => (ixN ds.length j).map fun p => S.set n (.lst (ds.set p d))
  | _ => none
def gPut (o i v : Vl) (S : Sto) : Option Sto := match o with
  | .o n => match i with
    | .d k => match v with
      | .d d => match lstOf S n with
        | some ds => gPutL n ds k d S
        | none => match dctOf S n with
          | some kds => if kindB kds k = true ∧ kds.length < SZ then some (S.set n (.dct (dPut kds k d))) else none
          | none => none
      | _ => none
    | _ => none
  | _ => none
/-- the object that a name stands for is data from now on -/
def sFz (i : Nat) (b : SS) : SS := fun Γ S => match Γ[i]? with
  | some (some (.o n)) => match S[n]? with
    | some (.lst ds) => b (Γ.set i (some (.d (.list ds)))) (S.set n .dead)
    | some (.dct kds) => b (Γ.set i (some (.d (.dict kds)))) (S.set n .dead)
    | some (.dcl kds) => b (Γ.set i (some (.d (.dict kds)))) (S.set n .dead)
    | some (.lsl ds) => b (Γ.set i (some (.d (.list ds)))) (S.set n .dead)
    | _ => b Γ S
  | _ => b Γ S
def sPut (o i e : SE) : SS := fun Γ S => (e Γ S).bind fun v S1 => (o Γ S1).bind fun x S2 => (i Γ S2).bind fun y S3 => match gPut x y v S3 with
  | some S4 => .ok (.nx Γ) S4
  | none => .bad
def floop (tg : Tg) (b : SS) (src : Src) : Nat → Nat → Env → Sto → R Fl
  | 0, _, _, _ => .bad
  | f + 1, i, Γ, S => match nxt src S i with
    | none => .bad
    | some none => .ok (.nx Γ) S
    | some (some d) => match tg d Γ with
      | none => .bad
      | some Γ2 => (b Γ2 S).bind fun fl S1 => match fl with
        | .nx Γ3 => floop tg b src f (i + 1) Γ3 S1
        | .ct Γ3 => floop tg b src f (i + 1) Γ3 S1
        | .bk Γ3 => .ok (.nx Γ3) S1
        | .rt v => .ok (.rt v) S1
def sFor (it : SI) (tg : Tg) (b : SS) : SS := fun Γ S => (it Γ S).bind fun src S1 => floop tg b src (fuelOf src) 0 Γ S1
def wloop (c : ST) (b : SS) : Nat → Env → Sto → R Fl
  | 0, _, _ => .bad
  | f + 1, Γ, S => (c Γ S).bind fun x S1 => if x = true then (b Γ S1).bind fun fl S2 => match fl with
        | .nx Γ3 => wloop c b f Γ3 S2
        | .ct Γ3 => wloop c b f Γ3 S2
        | .bk Γ3 => .ok (.nx Γ3) S2
        | .rt v => .ok (.rt v) S2
      else .ok (.nx Γ) S1
def sWhile (c : ST) (b : SS) : SS := wloop c b bigFuel

section
variable {X : Cx} {E : XK} {e a c : Expr} {fe fa fc : SE} {ta : ST} {sa sb : SS} {st : Stmt} {rest body : List Stmt} {pos : Pos}
theorem _root_.L2.PS.weak {e : Stmt} {t t' : TS} (h : PS X e t) (w : ∀ D σ H, t' D σ H → t D σ H) : PS X e t' := ⟨fun pins s σ H D I hq => h.run pins s σ H D I (w _ _ _ hq)⟩
theorem _root_.L2.PSs.weak {e : List Stmt} {t t' : TS} (h : PSs X e t) (w : ∀ D σ H, t' D σ H → t D σ H) : PSs X e t' := ⟨fun pins s σ H D I hq => h.run pins s σ H D I (w _ _ _ hq)⟩
theorem ls_nil : PSs X [] (LS X.F E sSkip) := pss_nil.weak fun D σ H ⟨Γ, S, ρ, hS, hE, hp⟩ => hp ρ H σ (Ext.refl hS) hS hE
theorem ls_cons (h1 : PS X st (LS X.F E sa)) (h2 : PSs X rest (LS X.F E sb)) : PSs X (st :: rest) (LS X.F E (sSeq sa sb)) := (pss_cons h1 h2).weak fun D σ H ⟨Γ, S, ρ, hS, hE, hp⟩ => by
  refine ⟨Γ, S, ρ, hS, hE, PstS.then hp fun f1 S1 _ hp => ?_⟩
  cases f1 with
  | nx Γ1 => exact fun ρ' H' σ' x hS' hE' => ⟨Γ1, S1, ρ', hS', hE', PstS.mono x hp⟩
  | rt v => exact hp
  | bk Γ1 => exact hp
  | ct Γ1 => exact hp
theorem ls_one (h1 : PS X st (LS X.F E sa)) : PSs X [st] (LS X.F E sa) := pss_one h1
theorem ls_pass : PS X (.Pass pos) (LS X.F E sSkip) := ps_pass.weak fun D σ H ⟨Γ, S, ρ, hS, hE, hp⟩ => hp ρ H σ (Ext.refl hS) hS hE
theorem ls_doc {x : Str} {j : Nat} {p2 : Pos} : PS X (.Expr (.Constant (.str x) j p2) pos) (LS X.F E sSkip) := ps_doc.weak fun D σ H ⟨Γ, S, ρ, hS, hE, hp⟩ => hp ρ H σ (Ext.refl hS) hS hE
theorem ls_brk : PS X (.Break pos) (LS X.F E sBrk) := ps_break.weak fun D σ H ⟨Γ, S, ρ, hS, hE, hp⟩ => hp ρ H σ (Ext.refl hS) hS hE
theorem ls_cnt : PS X (.Continue pos) (LS X.F E sCnt) := ps_continue.weak fun D σ H ⟨Γ, S, ρ, hS, hE, hp⟩ => hp ρ H σ (Ext.refl hS) hS hE
theorem ls_bad : PS X st (LS X.F E sBad) := ps_never.weak fun D σ H ⟨Γ, S, ρ, hS, hE, hp⟩ => hp.elim
theorem ls_drop (he : PE X e (LE X.F (WI E) fe)) (hs : swapsWith e none pos.line X.env = pure false) : PS X (.Expr e pos) (LS X.F E (sDrop fe)) := (ps_expr he hs).weak fun D σ H ⟨Γ, S, ρ, hS, hE, hp⟩ =>
  ⟨Γ, S, ρ, hS, hE, PstS.bind hp fun v S1 ρ1 H1 x _ x1 hS1 _ hp => hp ρ1 H1 σ (Ext.refl hS1) hS1 (hE.ext x1)⟩
theorem ls_ret (he : PE X e (LE X.F (WI E) fe)) : PS X (.Return (some e) pos) (LS X.F E (sRet fe)) := (ps_ret he).weak fun D σ H ⟨Γ, S, ρ, hS, hE, hp⟩ =>
  ⟨Γ, S, ρ, hS, hE, PstS.bind hp fun v S1 ρ1 H1 x _ x1 hS1 q1 hp => hp ρ1 H1 x (Ext.refl hS1) hS1 q1⟩
theorem ls_retN : PS X (.Return none pos) (LS X.F E sRetN) := ps_retN.weak fun D σ H ⟨Γ, S, ρ, hS, hE, hp⟩ => hp ρ H _ (Ext.refl hS) hS (show Rp _ _ _ _ _ from .non)
theorem ls_if {a b : List Stmt} (hc : PT X c (LT X.F (WI E) ta)) (ha : PSs X a (LS X.F E sa)) (hb : PSs X b (LS X.F E sb)) : PS X (.If c a b pos) (LS X.F E (sIte ta sa sb)) := (ps_if hc ha hb).weak fun D σ H ⟨Γ, S, ρ, hS, hE, hp⟩ => by
  refine ⟨Γ, S, ρ, hS, hE, PstS.bind hp fun v S1 ρ1 H1 x _ x1 hS1 q1 hp => ?_⟩
  cases q1
  cases v with
  | true =>
    rw [if_pos rfl] at hp ⊢
    exact ⟨Γ, S1, ρ1, hS1, hE.ext x1, hp⟩
  | false =>
    rw [if_neg Bool.false_ne_true] at hp ⊢
    exact ⟨Γ, S1, ρ1, hS1, hE.ext x1, hp⟩
theorem ls_set_of {i : Nat} {t : TS} (h : PS X st (tAsg (LE X.F (WI E) fe) (gName i))) : PS X st (LS X.F E (sSet i fe)) := h.weak fun D σ H ⟨Γ, S, ρ, hS, hE, hp⟩ =>
  ⟨Γ, S, ρ, hS, hE, PstS.bind hp fun v S1 ρ1 H1 x _ x1 hS1 q1 hp => hp ρ1 H1 _ (Ext.refl hS1) hS1 ((hE.ext x1).set q1)⟩
theorem ls_asg {tg : Expr} {is : List Nat} {t : Tg} (he : PE X e (LE X.F (WI E) fe)) (hg : PG X tg (LG X.F is t)) (hs : swapsWithSole [tg] e pos.line X.env = pure false) (hw : swappedStores [tg] e X.env = pure none) (h1 : (assignEach [tg] X.env).map (·.2) = [assign tg X.env]) :
    PS X (.Assign [tg] e pos) (LS X.F E (sAsg t fe)) := (ps_asg he hg hs hw h1).weak fun D σ H ⟨Γ, S, ρ, hS, hE, hp⟩ => by
  refine ⟨Γ, S, ρ, hS, hE, PstS.bind hp fun v S1 ρ1 H1 x _ x1 hS1 q1 hp => ?_⟩
  split at hp
  · split at hp
    · rename_i Γ' ht
      exact ⟨Γ, S1, ρ1, _, Γ', hS1, hE.ext x1, q1, ht, fun σ' hE' _ => hp ρ1 H1 σ' (Ext.refl hS1) hS1 hE'⟩
    · exact hp.elim
  · exact hp.elim
def rPut (K : Fx) : TSet := fun x y z H Q => ∃ ρ S vo vi vv S', StR K ρ S H ∧ Vr K H ρ x vo ∧ Vr K H ρ y vi ∧ Vr K H ρ z vv ∧ gPut vo vi vv S = some S' ∧ ∀ ρ' H', Ext ρ H ρ' H' → StR K ρ' S' H' → Q H'
theorem set_put (hu : X.A.units + 64 < cLine) : PSet X (rPut X.F) := by
  intro pins s σ H o i v ov iv u Q I ro ri rv ⟨ρ, S, vo, vi, vv, S', hS, ho, hi, hv, e, hc⟩
  unfold gPut at e
  split at e
  · rename_i n
    split at e
    · rename_i k
      split at e
      · rename_i d
        obtain ⟨a, ha, rfl⟩ := ho
        split at e
        · rename_i ds el
          unfold gPutL at e
          split at e
          · rename_i j
            obtain ⟨p, hp, rfl⟩ := Option.map_eq_some_iff.mp e
            obtain ⟨xs, h3, h4⟩ := hS.lstAt ha el
            have hm : a ∈ ρ.m := hS.lstIn ha el
            cases (show Rp _ _ _ _ _ from hi)
            have cv : Cov ρ.m H ρ.m (upd H a (.lst (xs.set p v))) := ⟨fun b u hb hn => by rw [upd_ne (fun q => hn (by rw [q]; exact hm))]; exact hb, fun _ _ _ n => n⟩
            obtain ⟨g1, g2⟩ := hS.put (o := .lst (xs.set p v)) (p := .lst (ds.set p d)) ha hm fun _ _ _ => ⟨hm, _, upd_same, RpL.cov cv _ _ (h4.set p hv)⟩
            exact set_list pins s σ H _ _ v ov iv u Q I ro ri rv ⟨a, xs, j, p, rfl, rfl, h3, by rw [h4.length]; exact hp, hc _ _ g2 g1⟩
          · cases e
        · split at e
          · rename_i kds ed
            split at e
            · rename_i hk
              cases e
              obtain ⟨hm, D⟩ := hS.dctAt ha ed
              cases ro
              refine dd_setItem hu I D hk.1 (by rw [← SZ_eq]; exact hk.2) hi ri rv hv fun es' ep' s' hr I' => ?_
              have cv : Cov ρ.m H ρ.m (upd H a (dO a es' ep')) := ⟨fun b u hb hn => by rw [upd_ne (fun q => hn (by rw [q]; exact hm))]; exact hb, fun _ _ _ n => n⟩
              obtain ⟨g1, g2⟩ := hS.put (o := dO a es' ep') (p := .dct (dPut kds k d)) ha hm fun _ _ _ => ⟨hm, es', ep', upd_same, put_ok D.1 hk.1, RpD.cov cv _ _ hr⟩
              exact ⟨_, I', hc _ _ g2 g1⟩
            · cases e
          · cases e
      · cases e
    · cases e
  · cases e
theorem ls_put {o i : Expr} {fo fi : SE} {p2 : Pos} (hu : X.A.units + 64 < cLine) (ho : PE X o (LE X.F (WI E) fo)) (hi : PE X i (LE X.F (WI E) fi)) (he : PE X e (LE X.F (WI E) fe)) (hs : swapsWithSole [.Subscript o i p2] e pos.line X.env = pure false) (hw : swappedStores [.Subscript o i p2] e X.env = pure none) (hcell : ∀ v, assign (.Subscript o i p2) X.env v = (do
      let ov ← holding [v] (eval o X.env)
      let iv ← holding [v, ov] (eval i X.env)
      standAt p2
      holding [v, ov, iv] (setItem ov iv v)
      release [v, ov, iv] [])) :
    PS X (.Assign [.Subscript o i p2] e pos) (LS X.F E (sPut fo fi fe)) := (ps_asg he (pg_sub ho hi (set_put hu) hcell) hs hw rfl).weak fun D σ H ⟨Γ, S, ρ, hS, hE, hp⟩ => by
  refine ⟨Γ, S, ρ, hS, hE, PstS.bind hp fun v S1 ρ1 H1 z _ x1 hS1 q1 hp => ?_⟩
  refine ⟨Γ, S1, ρ1, hS1, hE.ext x1, PstS.bind hp fun x S2 ρ2 H2 u _ x2 hS2 q2 hp => ?_⟩
  refine ⟨Γ, S2, ρ2, hS2, (hE.ext x1).ext x2, PstS.bind hp fun y S3 ρ3 H3 w _ x3 hS3 q3 hp => ?_⟩
  split at hp
  · rename_i S4 e4
    refine ⟨ρ3, S3, x, y, v, S4, hS3, q2.ext x3, q3, (q1.ext x2).ext x3, e4, fun ρ4 H4 x4 hS4 => ?_⟩
    exact hp ρ4 H4 σ x4 hS4 ((((hE.ext x1).ext x2).ext x3).ext x4)
  · exact hp.elim
theorem ls_fz {i : Nat} (h : PS X st (LS X.F E sa)) : PS X st (LS X.F E (sFz i sa)) := h.weak fun D σ H ⟨Γ, S, ρ, hS, hE, hp⟩ => by
  unfold sFz at hp
  split at hp
  · rename_i n e
    obtain ⟨x, hx, a, ha, rfl⟩ := hE.get e
    have hσ : σ.set i (some (.ref a)) = σ := by
      apply List.ext_getElem?
      intro j
      by_cases hj : i = j
      · subst hj
        rw [List.getElem?_set_self (List.getElem?_eq_some_iff.mp hx).1, hx]
      · rw [List.getElem?_set_ne hj]
    obtain ⟨l, hl⟩ := ad_at.mp ha
    have fin : ∀ d, Rp X.F H (ρ.less (a :: l)).m (.ref a) d → PstS X.F E D ρ H (sa (Γ.set i (some (.d d))) (S.set n .dead)) → LS X.F E sa D σ H := fun d hd hp => by
      obtain ⟨f1, f2⟩ := hS.freeze hl
      refine ⟨_, _, ρ.less (a :: l), f1, ?_, hp.mono f2⟩
      have := (hE.ext f2).set (i := i) (v := .d d) (x := .ref a) hd
      rwa [hσ] at this
    have hnm : ∀ b ∈ a :: l, b ∉ (ρ.less (a :: l)).m := fun b hb z => (less_mem.mp z).2 hb
    split at hp
    · rename_i ds eo
      obtain ⟨_, xs, h1, h2⟩ := hS.getL hl eo
      exact fin _ (.lst ⟨h1, hnm a List.mem_cons_self⟩ (RpL.cov less_cov _ _ h2)) hp
    · rename_i kds eo
      obtain ⟨_, es, ep, h1, h2, h3⟩ := hS.getL hl eo
      exact fin _ (.dct h1 (hnm a List.mem_cons_self) h2 (RpD.cov less_cov _ _ h3)) hp
    · rename_i kds eo
      obtain ⟨_, es, ep, h1, h2, h3⟩ := hS.getL hl eo
      exact fin _ (.dct h1 (hnm a List.mem_cons_self) h2 (OwD.rp (fun b hb => hnm b (List.mem_cons_of_mem _ hb)) (fun _ _ q => Rp.cov less_cov _ _ q) (fun _ _ q => RpL.cov less_cov _ _ q) h3)) hp
    · rename_i ds eo
      obtain ⟨_, h1, h2⟩ := hS.getL hl eo
      exact fin _ (.lst ⟨h1, hnm a List.mem_cons_self⟩ (OwL.rp (fun b hb => hnm b (List.mem_cons_of_mem _ hb)) (fun _ _ q => Rp.cov less_cov _ _ q) (fun _ _ q => RpL.cov less_cov _ _ q) h2)) hp
    · exact ⟨Γ, S, ρ, hS, hE, hp⟩
  · exact ⟨Γ, S, ρ, hS, hE, hp⟩
theorem ls_par {i j : Nat} {a b : Expr} {fa fb : SE} (hp : ∀ ta, PA X [a, b] ta → PS X st (tPar i j ta)) (ha : PE X a (LE X.F (WI E) fa)) (hb : PE X b (LE X.F (WI E) fb)) (hs : starEach [a, b] X.env = (false, eval a X.env) :: starEach [b] X.env) (hs2 : starEach [b] X.env = (false, eval b X.env) :: starEach [] X.env) :
    PS X st (LS X.F E (sPar i j fa fb)) := (hp _ (pa_cons ha (pa_cons hb pa_nil hs2) hs)).weak fun D σ H ⟨Γ, S, ρ, hS, hE, hp⟩ => by
  refine ⟨Γ, S, ρ, hS, hE, PstS.bind hp fun v S1 ρ1 H1 z _ x1 hS1 q1 hp => ?_⟩
  refine ⟨Γ, S1, ρ1, hS1, hE.ext x1, PstS.bind hp fun w S2 ρ2 H2 u _ x2 hS2 q2 hp => ?_⟩
  exact ⟨z, u, rfl, hp ρ2 H2 _ (Ext.refl hS2) hS2 ((((hE.ext x1).ext x2).set (q1.ext x2)).set q2)⟩
theorem ls_for {tg iter : Expr} {is : List Nat} {t : Tg} {it : SI} (hx : PassesOwn (model X.prog X.w) X.A X.env X.xe) (hc : X.calm = true) (hi : PI X tg iter (LI X.F (WI E) it)) (hg : PG X tg (LG X.F is t)) (hb : PSs X body (LS X.F E sa)) (hs : ∀ x, foldedSetIterable iter X.env x = pure x) :
    PS X (.For tg iter body [] pos) (LS X.F E (sFor it t sa)) := (ps_for hx hc hi hg hb hs).weak fun D σ H ⟨Γ, S, ρ, hS, hE, hp⟩ => by
  refine ⟨Γ, S, ρ, hS, hE, PstS.bind hp fun src S1 ρ1 H1 J _ x1 hS1 hJ hp => ?_⟩
  refine ⟨fun i m σ2 H2 => ∃ Γ2 S2 ρ2, StR X.F ρ2 S2 H2 ∧ EnR X.F H2 ρ2 σ2 Γ2 ∧ Ext ρ1 H1 ρ2 H2 ∧ PstS X.F E D ρ2 H2 (floop t sa src m i Γ2 S2), ⟨fuelOf src, Γ, S1, ρ1, hS1, hE.ext x1, Ext.refl hS1, hp⟩, ?_⟩
  rintro i m σ2 H2 ⟨Γ2, S2, ρ2, gS, gE, gx, gl⟩
  obtain ⟨go, stop⟩ := src_go hJ gx gS
  cases m with
  | zero => exact gl.elim
  | succ m =>
    unfold floop at gl
    split at gl
    · exact gl.elim
    · rename_i e
      exact .inl ⟨stop i e, gl ρ2 H2 σ2 (Ext.refl gS) gS gE⟩
    · rename_i d e
      split at gl
      · exact gl.elim
      · rename_i Γ3 ht
        obtain ⟨hgo, hy⟩ := go i d e
        refine .inr ⟨hgo, fun σ' H' => ∃ Γ2 S2 ρ2, StR X.F ρ2 S2 H' ∧ EnR X.F H' ρ2 σ' Γ2 ∧ Ext ρ1 H1 ρ2 H' ∧ PstS X.F E D ρ2 H' (floop t sa src m (i + 1) Γ2 S2), fun σ' H' hN => ⟨m, Nat.lt_succ_self _, hN⟩, fun x H3 hx3 => ?_⟩
        obtain ⟨hg3, hr⟩ := hy x H3 hx3
        obtain ⟨gS3, gx3⟩ := grown gS hg3
        refine ⟨Γ2, S2, ρ2, d, Γ3, gS3, gE.ext gx3, hr, ht, fun σ' hE' _ => ?_⟩
        refine ⟨Γ3, S2, ρ2, gS3, hE', PstS.then (PstS.mono gx3 gl) fun f4 S4 _ gl => ?_⟩
        cases f4 with
        | nx Γ5 => exact fun ρ' H' σ' x' hS' hE' => ⟨Γ5, S4, ρ', hS', hE', (gx.trans gx3).trans x', PstS.mono x' gl⟩
        | ct Γ5 => exact fun ρ' H' σ' x' hS' hE' => ⟨Γ5, S4, ρ', hS', hE', (gx.trans gx3).trans x', PstS.mono x' gl⟩
        | bk Γ5 => exact fun ρ' H' σ' x' hS' hE' => gl ρ' H' σ' x' hS' hE'
        | rt v => exact fun ρ' H' σ' x' hS' hE' => gl ρ' H' σ' x' hS' hE'
theorem ls_while (hx : PassesOwn (model X.prog X.w) X.A X.env X.xe) (hc : PT X c (LT X.F (WI E) ta)) (hb : PSs X body (LS X.F E sa)) : PS X (.While c body [] pos) (LS X.F E (sWhile ta sa)) := (ps_while hx hc hb).weak fun D σ H ⟨Γ, S, ρ, hS, hE, hp⟩ => by
  refine ⟨fun m σ2 H2 => ∃ Γ2 S2 ρ2, StR X.F ρ2 S2 H2 ∧ EnR X.F H2 ρ2 σ2 Γ2 ∧ Ext ρ H ρ2 H2 ∧ PstS X.F E D ρ2 H2 (wloop ta sa m Γ2 S2), ⟨bigFuel, Γ, S, ρ, hS, hE, Ext.refl hS, hp⟩, ?_⟩
  rintro m σ2 H2 ⟨Γ2, S2, ρ2, gS, gE, gx, gl⟩
  cases m with
  | zero => exact gl.elim
  | succ m =>
    unfold wloop at gl
    refine ⟨Γ2, S2, ρ2, gS, gE, PstS.bind gl fun v S3 ρ3 H3 x _ x3 hS3 q3 gl => ?_⟩
    cases q3
    cases v with
    | false =>
      dsimp only
      rw [if_neg Bool.false_ne_true] at gl ⊢
      exact gl ρ3 H3 σ2 (Ext.refl hS3) hS3 (gE.ext x3)
    | true =>
      dsimp only
      rw [if_pos rfl] at gl ⊢
      refine ⟨fun σ' H' => ∃ Γ2 S2 ρ2, StR X.F ρ2 S2 H' ∧ EnR X.F H' ρ2 σ' Γ2 ∧ Ext ρ H ρ2 H' ∧ PstS X.F E D ρ2 H' (wloop ta sa m Γ2 S2), fun σ' H' hN => ⟨m, Nat.lt_succ_self _, hN⟩, ?_⟩
      refine ⟨Γ2, S3, ρ3, hS3, gE.ext x3, PstS.then gl fun f4 S4 _ gl => ?_⟩
      cases f4 with
      | nx Γ5 => exact fun ρ' H' σ' x' hS' hE' => ⟨Γ5, S4, ρ', hS', hE', (gx.trans x3).trans x', PstS.mono x' gl⟩
      | ct Γ5 => exact fun ρ' H' σ' x' hS' hE' => ⟨Γ5, S4, ρ', hS', hE', (gx.trans x3).trans x', PstS.mono x' gl⟩
      | bk Γ5 => exact fun ρ' H' σ' x' hS' hE' => gl ρ' H' σ' x' hS' hE'
      | rt v => exact fun ρ' H' σ' x' hS' hE' => gl ρ' H' σ' x' hS' hE'
end
end L2.Pv

set_option Elab.async false
set_option linter.all false
set_option maxRecDepth 100000
namespace L2.Pv
open PySem PySem.Spec PyProof.Rows L2

/-! ### methods -/
def gAppend (x : Vl) : GL := fun vs S => match x with
  | .o n => match vs with
    | [.d y] => match lstOf S n with
      | some ds => if ds.length < SZ then .ok (.d .none) (S.set n (.lst (ds ++ [y]))) else .bad
      | none => .bad
    | _ => .bad
  | _ => .bad
def gExtend (x : Vl) : GL := fun vs S => match x with
  | .o n => match vs with
    | [.d (.list es)] => match lstOf S n with
      | some ds => if ds.length + es.length ≤ SZ then .ok (.d .none) (S.set n (.lst (ds ++ es))) else .bad
      | none => .bad
    | _ => .bad
  | _ => .bad
/-- xs.pop(), xs.pop(i) -/
def gPop (x : Vl) : GL := fun vs S => match x with
  | .o n => match lstOf S n with
    | some ds => match vs with
      | [] => match ds[ds.length - 1]? with
        | some d => .ok (.d d) (S.set n (.lst ds.dropLast))
        | none => .bad
      | [v] => match intOf v with
        | some i => match ixN ds.length i with
          | some j => match ds[j]? with
            | some d => .ok (.d d) (S.set n (.lst (ds.eraseIdx j)))
            | none => .bad
          | none => .bad
        | none => .bad
      | _ => .bad
    | none => .bad
  | _ => .bad
def strsOf : List PyData → Option (List Str)
  | [] => some []
  | .str x :: r => (strsOf r).map (x :: ·)
  | _ :: _ => none
def gJoin (x : Vl) : GL := fun vs S => match x with
  | .d (.str a) => match vs with
    | [v] => match sqOf S v with
      | some (.l ds) => match strsOf ds with
        | some ys => if (ys.map (·.length)).sum + ys.length * a.length ≤ 16777216 then .ok (.d (.str (Str.join a ys))) S else .bad
        | none => .bad
      | some (.t ds) => match strsOf ds with
        | some ys => if (ys.map (·.length)).sum + ys.length * a.length ≤ 16777216 then .ok (.d (.str (Str.join a ys))) S else .bad
        | none => .bad
      | none => .bad
    | _ => .bad
  | _ => .bad
def gStarts (x : Vl) : GL := fun vs S => match x with
  | .d (.str a) => match vs with
    | [.d (.str b)] => .ok (.d (.bool (Txt.startswith a b))) S
    | _ => .bad
  | _ => .bad

section
variable {X : Cx} {o e : Expr} {fo fe : SE} {apos cpos : Pos} {K : Fx} {H : Hp} {ρ : Pl} {m : List Addr} {S : Sto}
theorem RpL.eraseIdx : ∀ (i : Nat) {ds : List PyData} {vs : List V}, RpL K H m vs ds → RpL K H m (vs.eraseIdx i) (ds.eraseIdx i)
  | _, [], _, h => by cases h; exact .nil
  | 0, d :: ds, _, h => by
    cases h with
    | cons a b => exact b
  | i + 1, d :: ds, _, h => by
    cases h with
    | cons a b => exact .cons a (RpL.eraseIdx i b)
theorem RpL.dropLast {ds : List PyData} {vs : List V} (h : RpL K H m vs ds) : RpL K H m vs.dropLast ds.dropLast := by
  rw [List.dropLast_eq_take, List.dropLast_eq_take, h.length]
  exact h.take _
/-- a list of the store gets other items -/
theorem put_lst (hS : StR K ρ S H) {n : Nat} {a : Addr} {xs : List V} {ds es : List PyData} (ha : ρ.ad[n]? = some a) (el : lstOf S n = some es) (h : RpL K H ρ.m xs ds) : StR K ρ (S.set n (.lst ds)) (upd H a (.lst xs)) ∧ Ext ρ H ρ (upd H a (.lst xs)) := by
  have hm : a ∈ ρ.m := hS.lstIn ha el
  exact hS.put ha hm fun _ _ _ => ⟨hm, _, upd_same, RpL.cov ⟨fun b u hb hn => by rw [upd_ne (fun q => hn (by rw [q]; exact hm))]; exact hb, fun _ _ _ n => n⟩ _ _ h⟩
end
/-- a method of a list of the store, of a text -/
def sMetO (g : Vl → GL) (a : SE) (fs : List SE) : SE := fun Γ S => (a Γ S).bind fun x S1 => match x with
  | .o n => match lstOf S1 n with
    | some _ => (sArgs fs Γ S1).bind fun vs S2 => g x vs S2
    | none => .bad
  | _ => .bad
def sMetS (g : Vl → GL) (a : SE) (fs : List SE) : SE := fun Γ S => (a Γ S).bind fun x S1 => match x with
  | .d (.str _) => (sArgs fs Γ S1).bind fun vs S2 => g x vs S2
  | _ => .bad
section
variable {X : Cx} {W : WX} {o e : Expr} {fo fe : SE} {fs : List SE} {apos cpos : Pos} {K : Fx} {σ : L2.St} {H : Hp} {Q : VK}
theorem met_o {g : Vl → GL} (nx : NXM g) {RR : V → List V → Hp → VK → Prop} (h2 : ∀ ρ S H n a xs vs v S' Q, StR K ρ S H → ρ.ad[n]? = some a → VrL K H ρ xs vs → g (.o n) vs S = .ok v S' → Cont K ρ H S' v Q → RR (.ref a) xs H Q)
    (h : LE K W (sMetO g fo fs) σ H Q) : tBM K.K "list" RR (LE K W fo) (LA K W (sArgs fs)) σ H Q := by
  obtain ⟨Γ, S, ρ, hS, hE, hp⟩ := h
  refine ⟨Γ, S, ρ, hS, hE, Pst.bind hp fun va S1 ρ1 H1 x ev x1 hS1 q1 hp => ?_⟩
  split at hp
  · rename_i n
    split at hp
    · rename_i ds el
      obtain ⟨a, ha, rfl⟩ := q1
      obtain ⟨xs, h3, h4⟩ := hS1.lstAt ha el
      refine ⟨.inl ⟨rfl, xs, .of h3⟩, ?_⟩
      refine ⟨Γ, S1, ρ1, hS1, hE.ext x1, Pst.bind hp fun vs S2 ρ2 H2 ys _ x2 hS2 q2 hp => ?_⟩
      obtain ⟨v, S', e, hc⟩ := hp.leaf (nx (.o n) vs S2)
      exact h2 ρ2 S2 H2 n a ys vs v S' Q hS2 (x2.ad ha) q2 e hc
    · exact hp.elim
  · exact hp.elim
theorem mt_app (ρ S H n a xs vs v S' Q) (hS : StR K ρ S H) (ha : ρ.ad[n]? = some a) (hv : VrL K H ρ xs vs) (hg : gAppend (.o n) vs S = .ok v S') (hc : Cont K ρ H S' v Q) : rAppend (.ref a) xs H Q := by
  simp only [gAppend] at hg
  split at hg
  · rename_i y
    split at hg
    · rename_i ds el
      split at hg
      · rename_i hz
        cases hg
        obtain ⟨x, rfl, hx⟩ := hv.one rfl
        obtain ⟨zs, h3, h4⟩ := hS.lstAt ha el
        obtain ⟨g1, g2⟩ := put_lst hS ha el (h4.snoc hx)
        exact ⟨a, zs, x, rfl, rfl, h3, by rw [h4.length, ← SZ_eq]; exact hz, hc _ _ _ g2 g1 (show Rp _ _ _ _ _ from .non)⟩
      · cases hg
    · cases hg
  · cases hg
theorem mt_ext (ρ S H n a xs vs v S' Q) (hS : StR K ρ S H) (ha : ρ.ad[n]? = some a) (hv : VrL K H ρ xs vs) (hg : gExtend (.o n) vs S = .ok v S') (hc : Cont K ρ H S' v Q) : rExtend (.ref a) xs H Q := by
  simp only [gExtend] at hg
  split at hg
  · rename_i es
    split at hg
    · rename_i ds el
      split at hg
      · rename_i hz
        cases hg
        obtain ⟨x, rfl, hx⟩ := hv.one rfl
        obtain ⟨zs, h3, h4⟩ := hS.lstAt ha el
        cases (show Rp _ _ _ _ _ from hx) with
        | lst ta qa =>
          obtain ⟨g1, g2⟩ := put_lst hS ha el (h4.append qa)
          exact ⟨a, _, zs, _, rfl, rfl, h3, ta.1, by rw [h4.length, qa.length, ← SZ_eq]; exact hz, hc _ _ _ g2 g1 (show Rp _ _ _ _ _ from .non)⟩
      · cases hg
    · cases hg
  · cases hg
theorem ixN_bound {n : Nat} {i : Int} {j : Nat} (hn : n ≤ SZ) (h : ixN n i = some j) : -(2 ^ 63) ≤ i ∧ i < 2 ^ 63 := by
  obtain ⟨_, h2, h3, h4⟩ := ixN_seq h
  have : SZ = 16777216 := rfl
  omega
theorem mt_pop0 (ρ S H n a xs vs v S' Q) (hS : StR K ρ S H) (ha : ρ.ad[n]? = some a) (hv : VrL K H ρ xs vs) (h0 : vs = []) (hg : gPop (.o n) vs S = .ok v S') (hc : Cont K ρ H S' v Q) : rPop (.ref a) xs H Q := by
  subst h0
  cases hv
  simp only [gPop] at hg
  split at hg
  · rename_i ds el
    split at hg
    · rename_i d ed
      cases hg
      obtain ⟨zs, h3, h4⟩ := hS.lstAt ha el
      obtain ⟨g1, g2⟩ := put_lst hS ha el h4.dropLast
      obtain ⟨y, h5, h6⟩ := h4.get ed
      exact ⟨a, zs, y, rfl, rfl, h3, by rw [h4.length]; exact h5, hc _ _ _ g2 g1 (Vr.ext g2 (v := .d d) h6)⟩
    · cases hg
  · cases hg
theorem mt_pop1 (ρ S H n a xs vs v S' Q) (hS : StR K ρ S H) (ha : ρ.ad[n]? = some a) (hv : VrL K H ρ xs vs) (h1 : vs.length = 1) (hz : ∀ ds, lstOf S n = some ds → ds.length ≤ SZ) (hg : gPop (.o n) vs S = .ok v S') (hc : Cont K ρ H S' v Q) : rPopAt (.ref a) xs H Q := by
  simp only [gPop] at hg
  split at hg
  · rename_i ds el
    split at hg
    · cases h1
    · split at hg
      · rename_i i ei
        split at hg
        · rename_i j ej
          split at hg
          · rename_i d ed
            cases hg
            obtain ⟨x, rfl, hx⟩ := hv.one rfl
            cases intOf_rp hx ei
            obtain ⟨zs, h3, h4⟩ := hS.lstAt ha el
            obtain ⟨g1, g2⟩ := put_lst hS ha el (h4.eraseIdx j)
            obtain ⟨y, h5, h6⟩ := h4.get ed
            obtain ⟨b1, b2⟩ := ixN_bound (hz _ el) ej
            exact ⟨a, zs, i, j, y, rfl, rfl, h3, b1, b2, by rw [h4.length]; exact (ixN_seq ej).1, h5, hc _ _ _ g2 g1 (Vr.ext g2 (v := .d d) h6)⟩
          · cases hg
        · cases hg
      · cases hg
    · cases hg
  · cases hg
/-- xs.pop(i): the list is not too long -/
def gPop1 (x : Vl) : GL := fun vs S => match x with
  | .o n => match lstOf S n with
    | some ds => if ds.length ≤ SZ ∧ vs.length = 1 then gPop (.o n) vs S else .bad
    | none => .bad
  | _ => .bad
def gPop0 (x : Vl) : GL := fun vs S => match vs with
  | [] => gPop x [] S
  | _ => .bad
theorem mt_pop0' (ρ S H n a xs vs v S' Q) (hS : StR K ρ S H) (ha : ρ.ad[n]? = some a) (hv : VrL K H ρ xs vs) (hg : gPop0 (.o n) vs S = .ok v S') (hc : Cont K ρ H S' v Q) : rPop (.ref a) xs H Q := by
  unfold gPop0 at hg
  split at hg
  · exact mt_pop0 ρ S H n a xs _ v S' Q hS ha hv rfl hg hc
  · cases hg
theorem mt_pop1' (ρ S H n a xs vs v S' Q) (hS : StR K ρ S H) (ha : ρ.ad[n]? = some a) (hv : VrL K H ρ xs vs) (hg : gPop1 (.o n) vs S = .ok v S') (hc : Cont K ρ H S' v Q) : rPopAt (.ref a) xs H Q := by
  simp only [gPop1] at hg
  split at hg
  · rename_i ds el
    split at hg
    · rename_i hz
      exact mt_pop1 ρ S H n a xs vs v S' Q hS ha hv hz.2 (fun ds' e' => by rw [el] at e'; cases e'; exact hz.1) hg hc
    · cases hg
  · cases hg
theorem strs_rp {m : List Addr} : ∀ {ds : List PyData} {xs : List V} {ys : List Str}, RpL K H m xs ds → strsOf ds = some ys → xs = ys.map V.str ∧ ∀ y ∈ ys, PySem.PyData.strOk y = true
  | [], _, _, h, e => by cases h; cases e; exact ⟨rfl, fun _ h => by cases h⟩
  | d :: ds, _, ys, h, e => by
    cases h with
    | cons a b =>
      cases d with
      | str k =>
        obtain ⟨l, h1, h2⟩ := Option.map_eq_some_iff.mp (show (strsOf ds).map (k :: ·) = some ys from e)
        subst h2
        cases a with
        | str _ ok =>
          obtain ⟨e1, e2⟩ := strs_rp b h1
          refine ⟨by rw [e1]; rfl, fun y hy => ?_⟩
          rcases List.mem_cons.mp hy with rfl | hy
          · exact ok
          · exact e2 y hy
      | _ => cases e
theorem strOk_empty : PySem.PyData.strOk Str.empty = true := strOk_iff.mpr fun c hc => absurd hc (by simp [Str.empty])
theorem txt_join (a : Str) (ys : List Str) : Txt.join a ys = Str.join a ys := PySem.StrLaws.glued_eq_join a ys
theorem strOk_join {a : Str} (ha : PySem.PyData.strOk a = true) : ∀ {ys : List Str}, (∀ y ∈ ys, PySem.PyData.strOk y = true) → PySem.PyData.strOk (Str.join a ys) = true
  | [], _ => strOk_empty
  | [x], h => h x List.mem_cons_self
  | x :: y :: r, h => by
    show PySem.PyData.strOk (x ++ a ++ Str.join a (y :: r)) = true
    exact strOk_append (strOk_append (h x List.mem_cons_self) ha) (strOk_join ha fun z hz => h z (List.mem_cons_of_mem _ hz))
theorem met_s {g : Vl → GL} (nx : NXM g) {RR : V → List V → Hp → VK → Prop} (h2 : ∀ ρ S H z xs vs v S' Q, StR K ρ S H → PySem.PyData.strOk z = true → VrL K H ρ xs vs → g (.d (.str z)) vs S = .ok v S' → Cont K ρ H S' v Q → RR (.str z) xs H Q)
    (h : LE K W (sMetS g fo [fe]) σ H Q) : tM1 RR (LE K W fo) (LE K W fe) σ H Q := by
  obtain ⟨Γ, S, ρ, hS, hE, hp⟩ := h
  refine ⟨Γ, S, ρ, hS, hE, Pst.bind hp fun va S1 ρ1 H1 x ev x1 hS1 q1 hp => ?_⟩
  split at hp
  · rename_i z
    cases (show Rp _ _ _ _ _ from q1) with
    | str _ ok =>
      refine ⟨⟨z, rfl⟩, Γ, S1, ρ1, hS1, hE.ext x1, ?_⟩
      have hp2 : Pst K (WE W σ) (Vr K) ρ1 H1 ((fe Γ S1).bind fun w S2 => g (.d (.str z)) [w] S2) Q := by
        have e : ((sArgs [fe] Γ S1).bind fun vs S2 => g (.d (.str z)) vs S2) = (fe Γ S1).bind fun w S2 => g (.d (.str z)) [w] S2 := by
          show ((((fe Γ S1).bind fun v S2 => (sArgs [] Γ S2).bind fun vs S3 => R.ok (v :: vs) S3)).bind _) = _
          cases fe Γ S1 <;> rfl
        rw [← e]
        exact hp
      refine Pst.bind hp2 fun w S2 ρ2 H2 y _ x2 hS2 q2 hp => ?_
      obtain ⟨v, S', e, hc⟩ := hp.leaf (nx (.d (.str z)) [w] S2)
      exact h2 ρ2 _ H2 z [y] [w] v S' Q hS2 ok (.cons q2 .nil) e hc
  · exact hp.elim
theorem mt_joinD (ρ S H z xs vs v S' Q) (hS : StR K ρ S H) (hz : PySem.PyData.strOk z = true) (hv : VrL K H ρ xs vs) (hg : gJoin (.d (.str z)) vs S = .ok v S') (hc : Cont K ρ H S' v Q) :
    ∃ a p, ∃ ys : List Str, V.str z = .str a ∧ xs = [.ref p] ∧ (SqL K.K H p (ys.map V.str) ∨ SqT K.K H p (ys.map V.str)) ∧ (ys.map (·.length)).sum + ys.length * a.length ≤ 16777216 ∧ Q (.str (Txt.join a ys)) H := by
  simp only [gJoin] at hg
  split at hg
  · rename_i w
    obtain ⟨x, rfl, hx⟩ := hv.one rfl
    split at hg
    · rename_i ds es
      split at hg
      · rename_i ys ey
        split at hg
        · rename_i hl
          cases hg
          obtain ⟨p, zs, rfl, h3, h4⟩ := sq_l hS hx es
          obtain ⟨rfl, h5⟩ := strs_rp h4 ey
          exact ⟨z, p, ys, rfl, rfl, .inl h3, hl, by rw [txt_join]; exact hc ρ H _ (Ext.refl hS) hS (show Rp _ _ _ _ _ from .str _ (strOk_join hz h5))⟩
        · cases hg
      · cases hg
    · rename_i ds es
      split at hg
      · rename_i ys ey
        split at hg
        · rename_i hl
          cases hg
          obtain ⟨_, p, zs, rfl, h3, h4⟩ := sq_t hx es
          obtain ⟨rfl, h5⟩ := strs_rp h4 ey
          exact ⟨z, p, ys, rfl, rfl, .inr h3, hl, by rw [txt_join]; exact hc ρ H _ (Ext.refl hS) hS (show Rp _ _ _ _ _ from .str _ (strOk_join hz h5))⟩
        · cases hg
      · cases hg
    · cases hg
  · cases hg
theorem mt_startsD (ρ S H z xs vs v S' Q) (hS : StR K ρ S H) (hz : PySem.PyData.strOk z = true) (hv : VrL K H ρ xs vs) (hg : gStarts (.d (.str z)) vs S = .ok v S') (hc : Cont K ρ H S' v Q) :
    ∃ a b, V.str z = .str a ∧ xs = [.str b] ∧ Q (.bl (Txt.startswith a b)) H := by
  simp only [gStarts] at hg
  split at hg
  · rename_i b
    cases hg
    obtain ⟨x, rfl, hx⟩ := hv.one rfl
    cases (show Rp _ _ _ _ _ from hx)
    exact ⟨z, b, rfl, rfl, hc ρ H _ (Ext.refl hS) hS (show Rp _ _ _ _ _ from .bl _)⟩
  · cases hg
/-- the written forms -/
structure M1 (X : Cx) (o e : Expr) (name : Str) (apos cpos : Pos) : Prop where
  base : attributeBase o name X.env (eval o X.env) = eval o X.env
  few : ((backTo cpos (starEach [e] X.env)).all (fun x => !x.1) && (backToKw cpos (keywordEach [] X.env)).all (fun x => x.1.isSome) && decide ([e].length + ([] : List Keyword).length + (if ([] : List Keyword).isEmpty then 0 else 1) < 30)) = true
  line : (apos.endLine == cpos.line) = true
  st : starEach [e] X.env = (false, eval e X.env) :: starEach [] X.env
  plain : (backTo cpos (starEach [] X.env)).any (·.1) = false
theorem nx_append : NXM gAppend := by
  intro a vs S
  unfold gAppend
  repeat' split
  all_goals trivial
theorem nx_extend : NXM gExtend := by
  intro a vs S
  unfold gExtend
  repeat' split
  all_goals trivial
theorem nx_pop : NXM gPop := by
  intro a vs S
  unfold gPop
  repeat' split
  all_goals trivial
theorem nx_pop1 : NXM gPop1 := by
  intro a vs S
  unfold gPop1
  repeat' split
  all_goals first | exact nx_pop _ _ _ | trivial
theorem nx_pop0 : NXM gPop0 := by
  intro a vs S
  unfold gPop0
  repeat' split
  all_goals first | exact nx_pop _ _ _ | trivial
theorem nx_join : NXM gJoin := by
  intro a vs S
  unfold gJoin
  repeat' split
  all_goals trivial
theorem nx_starts : NXM gStarts := by
  intro a vs S
  unfold gStarts
  repeat' split
  all_goals trivial
theorem le_append (f : M1 X o e "append" apos cpos) (ho : PE X o (LE X.F W fo)) (he : PE X e (LE X.F W fe)) : PE X (.Call (.Attribute o "append" apos) [e] [] cpos) (LE X.F W (sMetO gAppend fo [fe])) :=
  (pe_bm PySem.F.plainAttrs_list PySem.F.slot_list_append PySem.F.type_list_append mt_append ho (la_cons he la_nil f.st) f.base f.few f.line f.st f.plain).weak fun σ H Q h => met_o nx_append mt_app h
theorem le_extend (f : M1 X o e "extend" apos cpos) (ho : PE X o (LE X.F W fo)) (he : PE X e (LE X.F W fe)) : PE X (.Call (.Attribute o "extend" apos) [e] [] cpos) (LE X.F W (sMetO gExtend fo [fe])) :=
  (pe_bm PySem.F.plainAttrs_list PySem.F.slot_list_extend PySem.F.type_list_extend mt_extend ho (la_cons he la_nil f.st) f.base f.few f.line f.st f.plain).weak fun σ H Q h => met_o nx_extend mt_ext h
theorem le_pop1 (f : M1 X o e "pop" apos cpos) (ho : PE X o (LE X.F W fo)) (he : PE X e (LE X.F W fe)) : PE X (.Call (.Attribute o "pop" apos) [e] [] cpos) (LE X.F W (sMetO gPop1 fo [fe])) :=
  (pe_bm PySem.F.plainAttrs_list PySem.F.slot_list_pop PySem.F.type_list_pop mt_popAt ho (la_cons he la_nil f.st) f.base f.few f.line f.st f.plain).weak fun σ H Q h => met_o nx_pop1 mt_pop1' h
theorem le_pop0 (hbase : attributeBase o "pop" X.env (eval o X.env) = eval o X.env) (hline : (apos.endLine == cpos.line) = true) (ho : PE X o (LE X.F W fo)) : PE X (.Call (.Attribute o "pop" apos) [] [] cpos) (LE X.F W (sMetO gPop0 fo [])) :=
  (pe_bm0 PySem.F.plainAttrs_list PySem.F.slot_list_pop PySem.F.type_list_pop mt_pop ho hbase hline).weak fun σ H Q h => by
    obtain ⟨Γ, S, ρ, hS, hE, hp⟩ := met_o nx_pop0 mt_pop0' h
    exact ⟨Γ, S, ρ, hS, hE, Pst.imp hp fun x H1 ⟨ht, Γ', S', ρ', hS', hE', h⟩ => ⟨ht, h ρ' H1 [] (Ext.refl hS') hS' .nil⟩⟩
theorem le_join (f : M1 X o e "join" apos cpos) (ho : PE X o (LE X.F W fo)) (he : PE X e (LE X.F W fe)) : PE X (.Call (.Attribute o "join" apos) [e] [] cpos) (LE X.F W (sMetS gJoin fo [fe])) :=
  (pe_join ho he (by rw [f.st]; rfl) f.base f.line).weak fun σ H Q h => met_s nx_join mt_joinD h
theorem le_starts (f : M1 X o e "startswith" apos cpos) (ho : PE X o (LE X.F W fo)) (he : PE X e (LE X.F W fe)) : PE X (.Call (.Attribute o "startswith" apos) [e] [] cpos) (LE X.F W (sMetS gStarts fo [fe])) :=
  (pe_m1 PySem.F.slot_str_startswith PySem.F.type_str_startswith mt_startswith ho he (by rw [f.st]; rfl) f.base f.line).weak fun σ H Q h => met_s nx_starts mt_startsD h
end
end L2.Pv

set_option Elab.async false
set_option linter.all false
set_option maxRecDepth 100000
namespace L2.Pv
open PySem PySem.Spec PyProof.Rows L2

/-! ### more operations: lists of the store added, lists made to be changed, texts split -/
def lsV (S : Sto) : Vl → Option (List PyData)
  | .d (.list ds) => some ds
  | .o n => lstOf S n
  | _ => none
def addL (S : Sto) (x y : Option (List PyData)) : R Vl := match x with
  | some x => match y with
    | some y => if x.length + y.length ≤ SZ then .ok (.d (.list (x ++ y))) S else .bad
    | none => .bad
  | none => .bad
def gAdd : G2 := fun a b S => match a with
  | .d x => match b with
    | .d y => lft S (dAdd x y)
    | b => addL S (lsV S (.d x)) (lsV S b)
  | a => addL S (lsV S a) (lsV S b)
section
variable {X : Cx} {pins : List (Addr × Obj)} {σ : L2.St} {H : Hp} {s : Shared} {ρ : Pl} {S : Sto} {Q : VK} {K : Fx}
theorem fin_lstK (hS : StR K ρ S H) {xs : List V} {ds : List PyData} (q : RpL K H ρ.m xs ds) (hc : Cont K ρ H S (.d (.list ds)) Q) : ∀ p, H p = none → Q (.ref p) (upd H p (.lst xs)) := fun p hp => hc ρ _ _ (hS.fresh hp).2 (hS.fresh hp).1 (lstNew hS hp q)
theorem ls_rp (hS : StR K ρ S H) {v : Vl} {x : V} {ds : List PyData} (h : Vr K H ρ x v) (e : lsV S v = some ds) : ∃ a xs, x = .ref a ∧ H a = some (.lst xs) ∧ RpL K H ρ.m xs ds := by
  unfold lsV at e
  split at e
  · cases e
    cases (show Rp _ _ _ _ _ from h) with
    | lst ta qa => exact ⟨_, _, rfl, ta.1, qa⟩
  · obtain ⟨a, ha, rfl⟩ := h
    obtain ⟨xs, h1, h2⟩ := hS.lstAt ha e
    exact ⟨a, xs, rfl, h1, h2⟩
  · cases e
theorem addL_ok {x y : V} {va vb r : Vl} {S' : Sto} (hS : StR K ρ S H) (ha : Vr K H ρ x va) (hb : Vr K H ρ y vb) (h : addL S (lsV S va) (lsV S vb) = .ok r S') (hc : Cont K ρ H S' r Q) : rCat x y H Q := by
  unfold addL at h
  split at h
  · rename_i xs ea
    split at h
    · rename_i ys eb
      split at h
      · rename_i hz
        cases h
        obtain ⟨a, vs, rfl, h1, h2⟩ := ls_rp hS ha ea
        obtain ⟨b, us, rfl, h3, h4⟩ := ls_rp hS hb eb
        exact ⟨_, _, _, _, rfl, rfl, h1, h3, by rw [h2.length, h4.length, ← SZ_eq]; exact hz, fin_lstK hS (h2.append h4) hc⟩
      · cases h
    · cases h
  · cases h
theorem opd_gAdd : OpR X (binaryOp .Add) (rD X.F gAdd) := by
  intro pins s σ H x y v u Q I rx ry h
  obtain ⟨ρ, S, va, vb, r, S', hS, ha, hb, hg, hc⟩ := h
  cases va with
  | d a =>
    cases vb with
    | d b => exact opd_add pins s σ H x y v u Q I rx ry ⟨ρ, S, .d a, .d b, r, S', hS, ha, hb, hg, hc⟩
    | o n => exact op_cat pins s σ H x y v u Q I rx ry (addL_ok hS ha hb hg hc)
    | k ds => exact op_cat pins s σ H x y v u Q I rx ry (addL_ok hS ha hb hg hc)
    | x c fs => exact op_cat pins s σ H x y v u Q I rx ry (addL_ok hS ha hb hg hc)
  | o n => exact op_cat pins s σ H x y v u Q I rx ry (addL_ok hS ha hb hg hc)
  | k ds => exact op_cat pins s σ H x y v u Q I rx ry (addL_ok hS ha hb hg hc)
  | x c fs => exact op_cat pins s σ H x y v u Q I rx ry (addL_ok hS ha hb hg hc)
def gListN : G1 := fun a S => match sqOf S a with
  | some (.l ds) => .ok (.o S.length) (S ++ [.lst ds])
  | some (.t ds) => .ok (.o S.length) (S ++ [.lst ds])
  | none => .bad
theorem cd_listN : CallR X (.type "list") (rDL X.F (arg1 gListN)) := by
  intro pins s σ H xs us Q I rx h
  obtain ⟨x, ρ, S, va, r, S', rfl, hS, ha, hg, hc⟩ := rDL1 h
  unfold gListN at hg
  split at hg
  · rename_i ds e
    cases hg
    obtain ⟨a, xs, rfl, h2, h3⟩ := sq_l hS ha e
    exact call_list_of pins s σ H _ us Q I rx ⟨_, _, rfl, .inl h2, fin_new hS h3 hc⟩
  · rename_i ds e
    cases hg
    obtain ⟨_, a, xs, rfl, h2, h3⟩ := sq_t ha e
    exact call_list_of pins s σ H _ us Q I rx ⟨_, _, rfl, .inr h2, fin_new hS h3 hc⟩
  · cases hg
def gSplit (x : Vl) : GL := fun vs S => match x with
  | .d (.str a) => match vs with
    | [.d (.str b)] => if (b.length == 0) = false ∧ a.length + 2 ≤ SZ then .ok (.d (.list ((Txt.split a b).map .str))) S else .bad
    | _ => .bad
  | _ => .bad
theorem join_sub (sep : Str) : ∀ (ts : List Str) (t : Str), t ∈ ts → ∀ c ∈ t.cps.toList, c ∈ (Str.join sep ts).cps.toList
  | [x], t, h, c, hc => by
    rw [List.mem_singleton.mp h] at hc
    exact hc
  | x :: y :: r, t, h, c, hc => by
    have e : (Str.join sep (x :: y :: r)).cps.toList = x.cps.toList ++ sep.cps.toList ++ (Str.join sep (y :: r)).cps.toList := by
      show ((x.cps ++ sep.cps) ++ (Str.join sep (y :: r)).cps).toList = _
      simp
    rw [e]
    rcases List.mem_cons.mp h with rfl | h
    · exact List.mem_append_left _ (List.mem_append_left _ hc)
    · exact List.mem_append_right _ (join_sub sep (y :: r) t h c hc)
theorem split_ok {a b : Str} (ha : PySem.PyData.strOk a = true) : ∀ t ∈ Txt.split a b, PySem.PyData.strOk t = true := fun t ht =>
  strOk_sub ha fun c hc => by
    have h := join_sub b (Txt.split a b) t ht c hc
    rwa [PySem.StrLaws.join_split] at h
theorem strs_rpL {m : List Addr} : ∀ {ys : List Str}, (∀ y ∈ ys, PySem.PyData.strOk y = true) → RpL K H m (ys.map V.str) (ys.map PyData.str)
  | [], _ => .nil
  | y :: r, h => .cons (.str y (h y List.mem_cons_self)) (strs_rpL fun z hz => h z (List.mem_cons_of_mem _ hz))
theorem mt_splitD (ρ S H z xs vs v S' Q) (hS : StR K ρ S H) (hz : PySem.PyData.strOk z = true) (hv : VrL K H ρ xs vs) (hg : gSplit (.d (.str z)) vs S = .ok v S') (hc : Cont K ρ H S' v Q) :
    ∃ a b, V.str z = .str a ∧ xs = [.str b] ∧ (b.length == 0) = false ∧ a.length + 2 ≤ sizeLine ∧ rNewStrs (Txt.split a b) H Q := by
  simp only [gSplit] at hg
  split at hg
  · rename_i b
    obtain ⟨x, rfl, hx⟩ := hv.one rfl
    split at hg
    · rename_i hl
      cases hg
      cases (show Rp _ _ _ _ _ from hx) with
      | str _ ob => exact ⟨z, b, rfl, rfl, hl.1, by rw [← SZ_eq]; exact hl.2, fin_lstK hS (strs_rpL (split_ok hz)) hc⟩
    · cases hg
  · cases hg
theorem nx_split : NXM gSplit := by
  intro a vs S
  unfold gSplit
  repeat' split
  all_goals trivial
theorem nx_addL {S : Sto} {x y : Option (List PyData)} : NoX (addL S x y) := by
  unfold addL
  repeat' split
  all_goals trivial
theorem nx_gAdd : NX2 gAdd := by
  intro a b S
  unfold gAdd
  split
  · split
    · exact nx_lft
    · exact nx_addL
  · exact nx_addL
theorem nx_listN : NX1 gListN := by
  intro a S
  unfold gListN
  repeat' split
  all_goals trivial
theorem le_split {o e : Expr} {apos cpos : Pos} {W : WX} {fo fe : SE} (f : M1 X o e "split" apos cpos) (ho : PE X o (LE X.F W fo)) (he : PE X e (LE X.F W fe)) : PE X (.Call (.Attribute o "split" apos) [e] [] cpos) (LE X.F W (sMetS gSplit fo [fe])) :=
  (pe_split ho he (by rw [f.st]; rfl) f.base f.line).weak fun σ H Q h => met_s nx_split mt_splitD h
/-- xs.index(x): lists -/
def sMetL (g : Vl → GL) (a : SE) (fs : List SE) : SE := fun Γ S => (a Γ S).bind fun x S1 => match lsV S1 x with
  | some _ => (sArgs fs Γ S1).bind fun vs S2 => g x vs S2
  | none => .bad
def gIndex (x : Vl) : GL := fun vs S => match lsV S x with
  | some ds => match vs with
    | [v] => match rdV S v with
      | some d => match ds.findIdx? (fun z => PyData.eqv z d) with
        | some j => if PyData.depth (.list ds) ≤ 64 ∧ d.depth ≤ 64 ∧ PyData.plainAll ds = true ∧ d.plain = true then .ok (.d (.int (j : Nat))) S else .bad
        | none => .bad
      | none => .bad
    | _ => .bad
  | none => .bad
theorem shaped_of {m : List Addr} {x : V} {d : PyData} (p : d.plain = true) (h : Rp K H m x d) (hd : d.depth ≤ 64) : SeqAt.shaped d = true := by
  unfold SeqAt.shaped
  rw [Rp.lay _ _ p h, decide_eq_true hd]
  rfl
theorem ls_rp0 (hS : StR K ρ S H) {v : Vl} {x : V} {ds : List PyData} (h : Vr K H ρ x v) (e : lsV S v = some ds) : Rp K H [] x (.list ds) := by
  obtain ⟨a, xs, rfl, h1, h2⟩ := ls_rp hS h e
  exact .lst ⟨h1, fun z => by cases z⟩ (RpL.cov (Cov.less (fun a z => by cases z)) _ _ h2)
theorem mt_indexV {vs : List Vl} {xs : List V} {v r : Vl} {x : V} {S' : Sto} (hS : StR K ρ S H) (hx : Vr K H ρ x v) (hv : VrL K H ρ xs vs) (hg : gIndex v vs S = .ok r S') (hc : Cont K ρ H S' r Q) : rIndexD K.K x xs H Q := by
  unfold gIndex at hg
  split at hg
  · rename_i ds el
    split at hg
    · rename_i w
      obtain ⟨y, rfl, hy⟩ := hv.one rfl
      split at hg
      · rename_i d ed
        split at hg
        · rename_i j ej
          split at hg
          · rename_i hz
            cases hg
            have h1 := ls_rp0 hS hx el
            have h2 := rdV_rp hS hy ed
            obtain ⟨a, zs, rfl, h3, h4⟩ := ls_rp hS hx el
            obtain ⟨f1, f2, f3⟩ := List.findIdx?_eq_some_iff_getElem.mp ej
            refine ⟨a, y, d, ds, j, ds[j], rfl, rfl, Rp.dp _ _ (by simpa [PyData.plain] using hz.2.2.1) h1, Rp.dp _ _ hz.2.2.2 h2, shaped_of (by simpa [PyData.plain] using hz.2.2.1) h1 hz.1, shaped_of hz.2.2.2 h2 hz.2.1, List.getElem?_eq_getElem f1, f2, fun m z' hm hz' => ?_, hc ρ H _ (Ext.refl hS) hS (show Rp _ _ _ _ _ from .int _)⟩
            have hml : m < ds.length := Nat.lt_trans hm f1
            rw [List.getElem?_eq_getElem hml] at hz'
            cases hz'
            have := f3 m hm
            simpa using this
          · cases hg
        · cases hg
      · cases hg
    · cases hg
  · cases hg
theorem nx_index : NXM gIndex := by
  intro a vs S
  unfold gIndex
  repeat' split
  all_goals trivial
theorem le_index {o e : Expr} {apos cpos : Pos} {W : WX} {fo fe : SE} (hu : X.A.units + 65 < cLine) (f : M1 X o e "index" apos cpos) (ho : PE X o (LE X.F W fo)) (he : PE X e (LE X.F W fe)) : PE X (.Call (.Attribute o "index" apos) [e] [] cpos) (LE X.F W (sMetL gIndex fo [fe])) :=
  (pe_bm PySem.F.plainAttrs_list PySem.F.slot_list_index PySem.F.type_list_index (mt_indexD hu) ho (la_cons he la_nil f.st) f.base f.few f.line f.st f.plain).weak fun σ H Q h => by
    obtain ⟨Γ, S, ρ, hS, hE, hp⟩ := h
    refine ⟨Γ, S, ρ, hS, hE, Pst.bind hp fun va S1 ρ1 H1 x ev x1 hS1 q1 hp => ?_⟩
    split at hp
    · rename_i ds el
      refine ⟨?_, Γ, S1, ρ1, hS1, hE.ext x1, Pst.bind hp fun vs S2 ρ2 H2 ys ev2 x2 hS2 q2 hp => ?_⟩
      · obtain ⟨a, zs, rfl, h3, h4⟩ := ls_rp hS1 q1 el
        exact .inl ⟨rfl, zs, .inl (.inl h3)⟩
      · obtain ⟨v, S', e, hc⟩ := hp.leaf (nx_index va vs S2)
        exact mt_indexV hS2 (q1.ext x2) q2 e hc
    · exact hp.elim
/-- C.index(x), C a tuple of texts that the module holds -/
def gIndexC (ys : List Str) : G1 := fun v S => match v with
  | .d (.str z) => match ys.findIdx? (fun y => y == z) with
    | some j => .ok (.d (.int (j : Nat))) S
    | none => .bad
  | _ => .bad
theorem nx_indexC (ys : List Str) : NX1 (gIndexC ys) := by
  intro a S
  unfold gIndexC
  repeat' split
  all_goals trivial
theorem le_indexC {W : WX} {x : Str} {p apos cpos : Pos} {e : Expr} {fe : SE} {ds : List PyData} {ys : List Str} {u : Value} {v : V} (hg : Gl X x) (hm : X.mg x = some u) (hv : RelV v u) (hd : Rp X.F HN [] v (.tuple ds)) (hs : strsOf ds = some ys) (o1 : (x == ("__debug__" : Str)) = false) (f : M1 X (.Name x p) e "index" apos cpos) (he : PE X e (LE X.F W fe)) : PE X (.Call (.Attribute (.Name x p) "index" apos) [e] [] cpos) (LE X.F W (sUn (gIndexC ys) fe)) := by
  cases hd with
  | tup ta qa =>
    obtain ⟨rfl, _⟩ := strs_rp qa hs
    rcases ta with ⟨h | ⟨o, h⟩, _⟩ | ⟨o, its, n, h1, h2, h3, h4, h5, h6⟩
    · cases h
    · cases h
    · refine (pe_bm PySem.F.plainAttrs_tuple PySem.F.slot_tuple_index PySem.F.type_tuple_index mt_tup_index (pe_glob hg hm hv o1) (la_cons he la_nil f.st) f.base f.few f.line f.st f.plain).weak fun σ H Q h => ?_
      refine ⟨.inr (.inl ⟨rfl, o, h1, h2, h3⟩), ?_⟩
      obtain ⟨Γ, S, ρ, hS, hE, hp⟩ := h
      refine ⟨Γ, S, ρ, hS, hE, ?_⟩
      have hp2 : Pst X.F (WE W σ) (Vr X.F) ρ H ((fe Γ S).bind fun w S2 => gIndexC ys w S2) Q := hp
      cases ef : fe Γ S with
      | bad => rw [ef] at hp2; exact hp2.elim
      | exc c fs S1 => rw [ef] at hp2; rw [show sArgs [fe] Γ S = .exc c fs S1 by simp only [sArgs, R.bind, ef]]; exact hp2
      | ok va S1 =>
        rw [ef] at hp2
        rw [show sArgs [fe] Γ S = .ok [va] S1 by simp only [sArgs, R.bind, ef]]
        obtain ⟨v, S', hf, hc⟩ := Pst.leaf (r := gIndexC ys va S1) hp2 (nx_indexC ys va S1)
        intro ρ1 H1 xs x1 hS1 q1
        obtain ⟨y, rfl, hy⟩ := VrL.one q1 rfl
        unfold gIndexC at hf
        split at hf
        · rename_i z
          split at hf
          · rename_i j ej
            cases hf
            obtain ⟨f1, f2, f3⟩ := List.findIdx?_eq_some_iff_getElem.mp ej
            cases (show Rp _ _ _ _ _ from hy) with
            | str _ ok =>
              refine ⟨_, ys, z, j, rfl, rfl, .inr ⟨o, its, n, h1, h2, h4, h5, h6⟩, ?_, fun m hm hz => ?_, hc ρ1 H1 _ x1 hS1 (show Rp _ _ _ _ _ from .int _)⟩
              · rw [List.getElem?_eq_getElem f1, eq_of_beq f2]
              · have hml : m < ys.length := Nat.lt_trans hm f1
                rw [List.getElem?_eq_getElem hml] at hz
                have := f3 m hm
                rw [Option.some.inj hz] at this
                exact this (beq_self_eq_true _)
          · cases hf
        · cases hf
end
end L2.Pv

set_option Elab.async false
set_option linter.all false
set_option maxRecDepth 100000
/-! Pv: a tuple, a list, from the end: t[::-1] -/
namespace PySem
open PySem PySem.Spec PyProof.Rows L2 HT
section
variable {prog : Program} {w : World} {A : Around} {E : Value → Shared → Prop} {s : Shared}
theorem pv_back_parts {sl : Addr} {vl vu vs : Value} {n : Nat} {Q : Int × Int × Nat → Shared → Prop} (hs : s.heap.IsSliceOf sl vl vu vs) (pl : IsPart vl none) (pu : IsPart vu none) (ps : IsPart vs (some (-1)))
    (h : Q ((n : Int) - 1, -1, n) s) : wpAny (model prog w) A (Builtin.Slice.sliceApplied (.ref sl) (pure (n : Int))) Q E s := by
  obtain ⟨ob, hob, hcl, hda⟩ := id hs
  unfold Builtin.Slice.sliceApplied Builtin.Slice.sliceFields
  refine wpAny_bind (wpAny_bind (wpAny_field hob hda (x := vl) rfl (wpAny_bind (wpAny_field hob hda (x := vu) rfl (wpAny_bind (wpAny_field hob hda (x := vs) rfl (wpAny_pure ?_)))))))
  refine wpAny_bind (slicePart_ ps ?_)
  show wpAny _ _ (if ((-1 : Int) == 0) = true then _ else _) _ _ s
  rw [if_neg (by decide)]
  refine wpAny_bind (slicePart_ pl (wpAny_bind (slicePart_ pu (wpAny_bind (wpAny_pure ?_)))))
  show wpAny _ _ (pure ((n : Int) - 1, (-1 : Int), Builtin.Slice.slicePlaces ((n : Int) - 1) (-1) (-1))) _ _ s
  have e : Builtin.Slice.slicePlaces ((n : Int) - 1) (-1) (-1) = n := by
    unfold Builtin.Slice.slicePlaces
    rw [if_neg (by decide)]
    by_cases hn : (n : Int) - 1 > -1
    · rw [if_pos hn, show (-(-1) : Int) = 1 from rfl, Int.ediv_one]
      omega
    · rw [if_neg hn]
      omega
  rw [e]
  exact wpAny_pure h
theorem pv_back_items (xs : Array Value) : ((List.range xs.size).filterMap fun (m : Nat) => xs[((xs.size : Int) - 1 + (m : Int) * -1).toNat]?) = xs.toList.reverse := by
  have gen : ∀ k, k ≤ xs.size → ((List.range k).filterMap fun (m : Nat) => xs[((xs.size : Int) - 1 + (m : Int) * -1).toNat]?) = xs.toList.reverse.take k := by
    intro k
    induction k with
    | zero => intro _; rfl
    | succ k ih =>
      intro hk
      have hk' : k < xs.size := hk
      rw [List.range_succ, List.filterMap_append, ih (by omega)]
      have e1 : ((xs.size : Int) - 1 + (k : Int) * -1).toNat = xs.size - 1 - k := by omega
      have e2 : xs[xs.size - 1 - k]? = some xs[xs.size - 1 - k] := Array.getElem?_eq_getElem (by omega)
      have e3 : xs.toList.reverse[k]? = some xs[xs.size - 1 - k] := by
        rw [List.getElem?_reverse (by simpa using hk')]
        simp
      rw [List.take_add_one, e3]
      simp only [List.filterMap_cons, List.filterMap_nil, e1, e2, Option.toList]
  rw [gen xs.size (Nat.le_refl _), List.take_of_length_le (by simp)]
theorem pv_back_get {t sl : Addr} {items : Array Value} {vl vu vs : Value} {Q : Value → Shared → Prop} (ht : IsTup s.heap t items) (hs : s.heap.IsSliceOf sl vl vu vs) (pl : IsPart vl none) (pu : IsPart vu none) (ps : IsPart vs (some (-1)))
    (h : Q (.ref s.heap.objs.size) { s with heap := s.heap.push { cls := .type "tuple", data := .seq items.toList.reverse.toArray } })
    (hsz : items.size ≤ sizeLine) : wpAny (model prog w) A (getItem (.ref t) (.ref sl)) Q E s := by
  have hfit : sizeOk (.seq items.toList.reverse.toArray) := by
    show items.toList.reverse.toArray.size ≤ sizeLine
    rw [List.size_toArray, List.length_reverse, Array.length_toList]
    exact hsz
  obtain ⟨ob, hob, hcl, hda⟩ := id hs
  have hty : s.TypeIs (.ref sl) "slice" := ⟨ob, hob, hcl⟩
  unfold getItem
  try with_reducible refine wpAny_holding ?_
  first | refine wpAny_bind (wpAny_pure ?_) | skip
  refine wpAny_bind (wpAny_sequenceKey ht.typeIs (by decide) ?_)
  refine wpAny_bind (wpAny_callSpecial?_slot (name := Str.ofString "__getitem__") ht.typeIs PyProof.Rows.slot_tuple_getitem (wpAny_call_entry PyProof.Rows.slot_tuple_getitem ht.typeIs entry_tuple_getitem ?_ (args_tuple_getitem _ _)))
  show wpAny _ _ (Builtin.Tuple.tupleItemsOf (.ref t) >>= _) _ _ s
  refine wpAny_bind (tupleItemsOf_ ht ?_)
  refine wpAny_bind (wpAny_typeOf hty ?_)
  rw [if_pos (by decide)]
  refine wpAny_bind (pv_back_parts hs pl pu ps ?_)
  have hno : ¬ (((items.size : Int) - 1 == 0 && (-1 : Int) == 1 && items.size == items.size) = true) := by
    intro q
    rw [Bool.and_eq_true, Bool.and_eq_true] at q
    exact absurd q.1.2 (by decide)
  show wpAny _ _ (if ((items.size : Int) - 1 == 0 && (-1 : Int) == 1 && items.size == items.size) = true then _ else _) _ _ s
  rw [if_neg hno, pv_back_items]
  first
    | exact wpAny_bind (m := Builtin.Tuple.tupleExact _) (wpAny_newObj_type (wpAny_pure ⟨_, rfl, wpAny_pure h⟩) hfit)
    | exact wpAny_bind (m := Builtin.Tuple.tupleExact _) (wpAny_newObj_type (wpAny_bind (wpAny_pure (wpAny_pure ⟨_, rfl, wpAny_pure h⟩))) hfit)
    | exact wpAny_bind (wpAny_bind (m := Builtin.Tuple.tupleExact _) (wpAny_newObj_type (wpAny_pure (wpAny_pure ⟨_, rfl, wpAny_pure h⟩)) hfit))
    | exact wpAny_bind (wpAny_bind (m := Builtin.Tuple.tupleExact _) (wpAny_newObj_type (wpAny_pure ⟨_, rfl, wpAny_pure h⟩) hfit))
end
end PySem
namespace L2
open PySem PySem.Spec PyProof.Rows L2
/-- t[::-1] -/
def tBack (K : PySem.W.Frag) (te : TE) : TE := fun σ H Q => te σ H fun x H1 => ∃ a xs, x = .ref a ∧ SqT K H1 a xs ∧ ∀ p, H1 p = none → Q (.ref p) (upd H1 p (.tup xs.reverse))
theorem pe_back {X : Cx} {e : Expr} {te : TE} {k : Nat} {p1 p2 p3 pos : Pos} (he : PE X e te) : PE X (.Subscript e (.Slice none none (some (.UnaryOp .USub (.Constant (.int 1) k p1) p2)) p3) pos) (tBack X.K te) := by
  refine ⟨fun pins s σ H Q I hh => ?_⟩
  refine Subscript_ (thn (he.run pins s σ H _ I hh) fun v w1 ⟨x, H1, I1, r1, g1⟩ => ?_)
  obtain ⟨a, xs, rfl, hx, g⟩ := g1
  cases r1
  have hstep : PO X (some (.UnaryOp .USub (.Constant (.int 1) k p1) p2)) (tPart (tUn (rU fun i => .int (-i)) (tC (.int 1)))) := po_some (pe_un un_neg pe_int)
  refine wpAny_Slice (thn (po_none.run pins w1 σ H1 (fun o H2 => o = none ∧ H2 = H1) I1 ⟨rfl, rfl⟩) fun vl w2 ⟨l, H2, I2, pl, el, e2⟩ => ?_)
  subst el e2
  refine thn (po_none.run pins w2 σ H2 (fun o H3 => o = none ∧ H3 = H2) I2 ⟨rfl, rfl⟩) fun vu w3 ⟨u, H3, I3, pu, eu, e3⟩ => ?_
  subst eu e3
  refine thn (hstep.run pins w3 σ H3 (fun o H4 => o = some (-1) ∧ H4 = H3) I3 ⟨1, rfl, -1, rfl, rfl, rfl⟩) fun vs w4 ⟨o, H4, I4, ps, eo, e4⟩ => ?_
  subst eo e4
  have J : Inv X pins σ H4 { w4 with heap := w4.heap.push { cls := .type "slice", data := .fields #[vl, vu, vs] } } := I4.kept (t' := w4.toks) fun b ob q => Heap.get?_push_of_some _ q
  obtain ⟨its, r, ht, hz⟩ := J.tuple hx
  have hlen := r.length
  show wpAny (model X.prog X.w) X.A (subscriptTail e (.Slice none none (some (.UnaryOp .USub (.Constant (.int 1) k p1) p2)) p3) (.ref a) (.ref w4.heap.objs.size)) (EP X pins σ Q) X.xe { w4 with heap := w4.heap.push { cls := .type "slice", data := .fields #[vl, vu, vs] } }
  refine tail_any (ops := [.ref a, .ref w4.heap.objs.size]) ht.typeIs PyProof.Rows.slot_tuple_getitem.lookup ?_ (by with_unfolding_all rfl)
  refine PySem.pv_back_get ht (Heap.IsSliceOf.new _ vl vu vs) pl pu ps ?_ (by rw [List.size_toArray]; omega)
  refine ⟨.ref _, _, J.laid (t' := w4.toks) (o := .tup xs.reverse) (fun b ob q => Heap.get?_push_of_some _ q) (Nat.le_refl _) ?_, rfl, g _ (J.hok.fresh (Nat.le_refl _))⟩
  exact ⟨by rw [List.length_reverse]; exact hz, _, r.reverse, _, Heap.get?_push_size _ rfl, rfl, 0, rfl⟩
end L2
namespace L2.Pv
open PySem PySem.Spec PyProof.Rows L2
def gBack : G1 := fun v S => match v with
  | .d (.tuple ds) => .ok (.d (.tuple ds.reverse)) S
  | _ => .bad
theorem RpL.back {K : Fx} {H : Hp} {m : List Addr} {ds : List PyData} {vs : List V} (h : RpL K H m vs ds) : RpL K H m vs.reverse ds.reverse := by
  have gen : ∀ {ds : List PyData} {vs : List V} {es : List PyData} {us : List V}, RpL K H m vs ds → RpL K H m us es → RpL K H m (vs.reverse ++ us) (ds.reverse ++ es) := by
    intro ds
    induction ds with
    | nil =>
      intro vs es us h1 h2
      cases h1
      exact h2
    | cons d ds ih =>
      intro vs es us h1 h2
      cases h1 with
      | cons a b =>
        rw [List.reverse_cons, List.reverse_cons, List.append_assoc, List.append_assoc]
        exact ih b (.cons a h2)
  have := gen h .nil
  rwa [List.append_nil, List.append_nil] at this
theorem nx_back : NX1 gBack := by
  intro a S
  unfold gBack
  repeat' split
  all_goals trivial
theorem le_back {X : Cx} {W : WX} {e : Expr} {fe : SE} {k : Nat} {p1 p2 p3 pos : Pos} (he : PE X e (LE X.F W fe)) : PE X (.Subscript e (.Slice none none (some (.UnaryOp .USub (.Constant (.int 1) k p1) p2)) p3) pos) (LE X.F W (sUn gBack fe)) :=
  (pe_back he).weak fun σ H Q h => le_one nx_back (RR := fun x H1 Q => ∃ a xs, x = .ref a ∧ SqT X.K H1 a xs ∧ ∀ p, H1 p = none → Q (.ref p) (upd H1 p (.tup xs.reverse))) (fun x H Q ⟨ρ, S, va, r, S', hS, hv, hg, hc⟩ => by
    unfold gBack at hg
    split at hg
    · cases hg
      cases (show Rp _ _ _ _ _ from hv) with
      | tup ta qa => exact ⟨_, _, rfl, ta.sq, fin_tup hS qa.back hc⟩
    · cases hg) h
end L2.Pv

set_option Elab.async false
set_option linter.all false
set_option maxRecDepth 100000
/-! sorted(rows), rows (key, ..): the keys decide -/
namespace L2.Pv
open PySem PySem.Spec PySem.W PyProof.Rows L2
def fstD : PyData → PyData
  | .tuple (k :: _) => k
  | _ => .none
def rowB : PyData → Bool
  | .tuple (_ :: _) => true
  | _ => false
/-- rows: the keys alike, equal ones only in equal rows -/
structure RowsOk (ds : List PyData) : Prop where
  row : ∀ d ∈ ds, ∃ k r, d = .tuple (k :: r)
  alk : ∀ d ∈ ds, ∀ d' ∈ ds, alike (fstD d) (fstD d') = true
  eqr : ∀ d ∈ ds, ∀ d' ∈ ds, PyData.eqv (fstD d) (fstD d') = true → PyData.eqv d d' = true
  pln : PyData.plainAll ds = true
theorem plain_ofP : ∀ {ds : List PyData}, PyData.plainAll ds = true → ∀ d ∈ ds, d.plain = true
  | d :: ds, h, e, he => by
    have h' : d.plain = true ∧ PyData.plainAll ds = true := by simpa [PyData.plainAll] using h
    rcases List.mem_cons.mp he with rfl | he
    · exact h'.1
    · exact plain_ofP h'.2 e he
noncomputable def rowKind (h : Heap) (ds : List PyData) : PyProof.Rows.KeyKind where
  toKeyOrd := listOrd itemOrd
  keyOf v := open Classical in if q : ∃ d, d ∈ ds ∧ ∃ as, Reads h v d as then some (keyToks (fstD q.choose)) else none
  dflt := ([] : List (Int ⊕ List Nat))
theorem rowKind_some {h : Heap} {ds : List PyData} (ok : RowsOk ds) {v : Value} {d : PyData} {as : List Addr} (hd : d ∈ ds) (r : Reads h v d as) : (rowKind h ds).keyOf v = some (keyToks (fstD d)) := by
  have q : ∃ d, d ∈ ds ∧ ∃ as, Reads h v d as := ⟨d, hd, as, r⟩
  have e : (rowKind h ds).keyOf v = some (keyToks (fstD q.choose)) := by
    show (open Classical in if q : ∃ d, d ∈ ds ∧ ∃ as, Reads h v d as then some (keyToks (fstD q.choose)) else none) = _
    rw [dif_pos q]
  obtain ⟨h1, as', h2⟩ := q.choose_spec
  rw [e, SeqAt.plain_unique _ _ _ _ _ (plain_ofP ok.pln _ h1) h2 r]
theorem rowKind_inv {h : Heap} {ds : List PyData} {v : Value} {k : List (Int ⊕ List Nat)} (e : (rowKind h ds).keyOf v = some k) : ∃ d as, d ∈ ds ∧ Reads h v d as ∧ k = keyToks (fstD d) := by
  by_cases q : ∃ d, d ∈ ds ∧ ∃ as, Reads h v d as
  · have e' : (rowKind h ds).keyOf v = some (keyToks (fstD q.choose)) := by
      show (open Classical in if q : ∃ d, d ∈ ds ∧ ∃ as, Reads h v d as then some (keyToks (fstD q.choose)) else none) = _
      rw [dif_pos q]
    obtain ⟨h1, as', h2⟩ := q.choose_spec
    rw [e'] at e
    exact ⟨_, as', h1, h2, (Option.some.inj e).symm⟩
  · have e' : (rowKind h ds).keyOf v = none := by
      show (open Classical in if q : ∃ d, d ∈ ds ∧ ∃ as, Reads h v d as then some (keyToks (fstD q.choose)) else none) = _
      rw [dif_neg q]
      rfl
    rw [e'] at e
    exact absurd e (by simp)
section
variable {prog : Program} {w : World} {A : Around} {s : Shared}
theorem kat_all {b : Bool} {Q : Bool → Shared → Prop} (hq : Q false s) : ∀ (xs ys : List PyData) (i : Nat) (vs ws : List Value) (as bs : List Addr), ReadsAll s.heap vs xs as → ReadsAll s.heap ws ys bs → PyData.plainAll xs = true → PyData.plainAll ys = true → PyData.eqvAll xs ys = true →
    A.units + min (PyData.depthAll xs) (PyData.depthAll ys) < cLine → KatLex prog w A b false Q (vs.zip ws) i s
  | [], ys, i, _, _, _, _, ra, rb, _, _, _, _ => by
    cases ra
    rw [List.zip_nil_left]
    exact kat_nil hq
  | x :: xs, [], i, _, _, _, _, ra, rb, _, _, _, _ => by
    cases rb
    rw [List.zip_nil_right]
    exact kat_nil hq
  | x :: xs, y :: ys, i, _, _, _, _, ra, rb, p1, p2, he, hu => by
    have p1' : x.plain = true ∧ PyData.plainAll xs = true := by simpa [PyData.plainAll] using p1
    have p2' : y.plain = true ∧ PyData.plainAll ys = true := by simpa [PyData.plainAll] using p2
    have he' : PyData.eqv x y = true ∧ PyData.eqvAll xs ys = true := by
      rw [eqv_all_cons, Bool.and_eq_true] at he
      exact he
    cases ra with
    | cons r rs =>
      cases rb with
      | cons r' rs' =>
        rw [List.zip_cons_cons]
        refine kat_cons (SeqAt.eqAt_plain x y A s _ _ _ _ r r' p1'.1 p2'.1 (SeqAt.room_head hu) prog w _ _ ?_)
        rw [he'.1]
        exact kat_yes (kat_all hq xs ys (i + 1) _ _ _ _ rs rs' p1'.2 p2'.2 he'.2 (SeqAt.room_tail hu))
theorem sortsAt_rows {vs : List Value} {ds : List PyData} (e : EachIs (fun v d => ∃ as, Reads s.heap v d as) vs ds) (ok : RowsOk ds) (hu : ∀ d, d ∈ ds → A.units + d.depth < cLine) : SortsAt prog w A s (rowKind s.heap ds) vs := by
  refine ⟨fun v hv => ?_, ?_⟩
  · obtain ⟨d, hd, as, r⟩ := e.left v hv
    exact ⟨_, rowKind_some ok hd r⟩
  · cases ds with
    | nil =>
      cases e
      exact ⟨general', fun E x y a b Q ha _ _ => (by
        obtain ⟨d, _, hd, _⟩ := rowKind_inv ha
        exact absurd hd (by simp)), fun h2 => absurd h2 (by simp)⟩
    | cons d₀ ds₀ =>
      obtain ⟨x₀, r₀, e₀⟩ := ok.row d₀ List.mem_cons_self
      have hfirst : ∀ x r, PyData.tuple (x :: r) ∈ d₀ :: ds₀ → alike x x₀ = true := fun x r hm => by
        have q := ok.alk _ hm d₀ List.mem_cons_self
        rw [e₀] at q
        exact q
      refine ⟨tuples' (dataType x₀ != Value.type "tuple"), ?_, fun h2 E Q hq => ?_⟩
      · intro E x y a b Q ha hb hq
        obtain ⟨d, as, hd, ra, rfl⟩ := rowKind_inv ha
        obtain ⟨d', as', hd', rb, rfl⟩ := rowKind_inv hb
        have hal := ok.alk d hd d' hd'
        have heq := ok.eqr d hd d' hd'
        have hpd := plain_ofP ok.pln d hd
        have hpd' := plain_ofP ok.pln d' hd'
        have hroom : A.units + min d.depth d'.depth < cLine := Nat.lt_of_le_of_lt (Nat.add_le_add_left (Nat.min_le_left _ _) _) (hu d hd)
        obtain ⟨x1, r1, rfl⟩ := ok.row d hd
        obtain ⟨x2, r2, rfl⟩ := ok.row d' hd'
        have hq' : Q (dataLt x1 x2) s := hq
        have hal : alike x1 x2 = true := hal
        have p1 : x1.plain = true ∧ PyData.plainAll r1 = true := by simpa [PyData.plain, PyData.plainAll] using hpd
        have p2 : x2.plain = true ∧ PyData.plainAll r2 = true := by simpa [PyData.plain, PyData.plainAll] using hpd'
        cases ra with
        | @tuple l o xs n _ _ h1 h2 h3 h4 =>
          cases rb with
          | @tuple l' o' xs' n' _ _ k1 k2 k3 k4 =>
            have n1 : xs.size = (x1 :: r1).length := by simpa using SeqAt.ReadsAll.length _ _ _ h4
            have n2 : xs'.size = (x2 :: r2).length := by simpa using SeqAt.ReadsAll.length _ _ _ k4
            have hroom2 := SeqAt.room_in hroom
            refine kat_lt h1 h3 k1 k3 ?_
            generalize hfin : decide (xs.size < xs'.size) = fin
            generalize hva : xs.toList = va at h4
            generalize hvb : xs'.toList = vb at k4
            cases h4 with
            | cons ra ras =>
              cases k4 with
              | cons rb rbs =>
                rw [List.zip_cons_cons]
                have hr1 : A.units + min (PyData.depthAll (x1 :: r1)) (PyData.depthAll (x2 :: r2)) < cLine := by omega
                refine kat_cons (SeqAt.eqAt_plain x1 x2 A s _ _ _ _ ra rb p1.1 p2.1 (SeqAt.room_head hr1) prog w _ _ ?_)
                cases hx : PyData.eqv x1 x2 with
                | true =>
                  have hall : PyData.eqvAll (x1 :: r1) (x2 :: r2) = true := heq hx
                  have hl : (x1 :: r1).length = (x2 :: r2).length := by
                    by_cases z : (x1 :: r1).length = (x2 :: r2).length
                    · exact z
                    · rw [SeqAt.eqvAll_other_length z] at hall
                      cases hall
                  have hf : fin = false := by
                    rw [← hfin]
                    exact decide_eq_false (by omega)
                  subst hf
                  rw [eqv_all_cons, hx, Bool.true_and] at hall
                  have hlt : dataLt x1 x2 = false := by
                    unfold dataLt
                    rw [(toks_eqv x1 x2 hal).1 hx]
                    exact lex_irrefl _
                  rw [hlt] at hq'
                  exact kat_yes (kat_all hq' r1 r2 1 _ _ _ _ ras rbs p1.2 p2.2 hall (SeqAt.room_tail hr1))
                | false =>
                  refine kat_no (oneLt_alike (fun hbi t => ?_) ra rb hal (ne_none_of hal hx) (SeqAt.room_head hr1) hq')
                  rw [Bool.and_eq_true] at hbi
                  have q := dataType_alike (hfirst _ _ hd)
                  exact dataType_tuple (q ▸ hbi.1) t
      · obtain ⟨fs, t1, t2, t3⟩ := each_katTups e ok.row
        refine kat_kind (T := dataType x₀) t1 (by omega) (fun f hf => ?_) (beq_self_eq_true _) hq
        obtain ⟨x, r, as, m1, m2⟩ := t3 f hf
        rw [← dataType_alike (hfirst x r m1)]
        exact looks_reads m2
theorem rows_of_map {β : Type} {enc : β → PyData} {h : Heap} : ∀ {vs : List Value} {bs : List β}, EachIs (fun v b => ∃ as, Reads h v (enc b) as) vs bs → EachIs (fun v d => ∃ as, Reads h v d as) vs (bs.map enc)
  | _, _, .nil => .nil
  | _, _, .cons a b => .cons a (rows_of_map b)
theorem each_in {α β : Type} {R : α → β → Prop} : ∀ {as : List α} {bs : List β}, EachIs R as bs → EachIs (fun a b => R a b ∧ b ∈ bs) as bs
  | _, _, .nil => .nil
  | _, _, .cons h t => .cons ⟨h, List.mem_cons_self⟩ ((each_in t).mono fun _ _ q => ⟨q.1, List.mem_cons_of_mem _ q.2⟩)
theorem sorted_rows {β : Type} {R : Value → β → Prop} {enc : β → PyData} {vs : List Value} {bs : List β} {E : Value → Shared → Prop} {l : Addr} {Q : Value → Shared → Prop} (hl : s.heap.IsList l vs.toArray) (e : EachIs R vs bs) (er : EachIs (fun v b => ∃ as, Reads s.heap v (enc b) as) vs bs) (ok : RowsOk (bs.map enc)) (hL : bs.length ≤ sizeLine)
    (hu : ∀ b, b ∈ bs → A.units + 2 + (enc b).depth < cLine) (h : ∀ out, out.length = bs.length → EachIs R out (bs.mergeSort (dataLe false fun b => fstD (enc b))) → Q (.ref (s.heap.objs.size + 1)) { s with heap := sortedAll s.heap vs (List.toArray out) }) :
    wpAny (model prog w) A (call (.builtin "sorted") [.ref l]) Q E s := by
  have er' : EachIs (fun v b => ∃ as, Reads (sortingHeap (copyHeap s.heap vs) (s.heap.objs.size + 1) vs) v (enc b) as) vs bs := er.mono fun _ _ ⟨as, r⟩ => ⟨as, PyProof.Rows.Reads.keeps (fun _ _ => sorting_copy_old) r⟩
  have S := sortsAt_rows (prog := prog) (w := w) (A := A.in1.in1) (s := { s with heap := sortingHeap (copyHeap s.heap vs) (s.heap.objs.size + 1) vs }) (rows_of_map er') ok fun d hd => by
    obtain ⟨b, hb, rfl⟩ := List.mem_map.mp hd
    exact hu b hb
  refine sorted_vals hl S (by rw [e.length]; exact hL) (h _ (by rw [sortVals_length false rfl]; exact e.length) ?_)
  exact sortVals_each (κ := rowKind (sortingHeap (copyHeap s.heap vs) (s.heap.objs.size + 1) vs) (bs.map enc)) (fun b => keyToks (fstD (enc b))) e ((each_in er').mono fun v b ⟨⟨as, r⟩, hb⟩ => rowKind_some ok (List.mem_map.mpr ⟨b, hb, rfl⟩) r)
end
end L2.Pv

set_option Elab.async false
set_option linter.all false
set_option maxRecDepth 100000
/-! Pv: methods of dicts, new dicts, sorted -/
namespace L2.Pv
open PySem PySem.Spec PyProof.Rows L2

/-! ### methods of dicts -/
section
variable {X : Cx} {o e : Expr} {es : List Expr} {to : TE} {t : TA} {name : Str} {apos cpos : Pos} {T id : String} {r : V → List V → Hp → VK → Prop}
def tBMx (P : V → Hp → Prop) (r : V → List V → Hp → VK → Prop) (to : TE) (t : TA) : TE := fun σ H Q => to σ H fun x H1 => P x H1 ∧ t σ H1 fun xs H2 => r x xs H2 Q
theorem pe_bmx {P : V → Hp → Prop} (hP : ∀ pins σ H s x v, Inv X pins σ H s → RelV x v → P x H → s.TypeIs v T ∧ ∀ a, v = .ref a → ∃ ob, s.heap.get? a = some ob ∧ ob.dict = none) (pa : PlainAttrs T) (slot : Slot T name id) (hty : typeOf (.builtin id) = pure (.type "method_descriptor")) (hm : MtR X id r) (ho : PE X o to) (ha : PA X (e :: es) t)
    (hbase : attributeBase o name X.env (eval o X.env) = eval o X.env)
    (hfew : ((backTo cpos (starEach (e :: es) X.env)).all (fun x => !x.1) && (backToKw cpos (keywordEach [] X.env)).all (fun x => x.1.isSome)
      && decide ((e :: es).length + ([] : List Keyword).length + (if ([] : List Keyword).isEmpty then 0 else 1) < 30)) = true)
    (hline : (apos.endLine == cpos.line) = true) (hs : starEach (e :: es) X.env = (false, eval e X.env) :: starEach es X.env) (hplain : (backTo cpos (starEach es X.env)).any (·.1) = false) :
    PE X (.Call (.Attribute o name apos) (e :: es) [] cpos) (tBMx P r to t) := by
  refine ⟨fun pins s σ H Q I h => ?_⟩
  refine wpAny_Call_method_late hbase hfew hline rfl (thn (ho.run pins s σ H _ I h) fun v s1 ⟨x, H1, I1, r1, ty, q1⟩ => ?_)
  obtain ⟨h1, h2⟩ := hP _ _ _ _ _ _ I1 r1 ty
  refine ⟨T, id, pa, slot, hty, h1, h2, ?_⟩
  have hA := ha.run cpos pins s1 σ H1 _ I1 q1
  rw [hs] at hA ⊢
  refine Calls.callWith_builtin (by show (false || (backTo cpos (starEach es X.env)).any (·.1)) = false; rw [hplain] <;> rfl) (Calls.evalArgs_plain ?_)
  exact thn hA fun us s2 ⟨vs, H2, I2, r2, q2⟩ => hm pins s2 σ H2 x vs v us Q I2 r1 r2 q2
end
def isDO (x : V) (H : Hp) : Prop := ∃ a es ep, x = .ref a ∧ H a = some (dO a es ep)
theorem isDO_ty {X : Cx} (pins : List (Addr × Obj)) (σ : L2.St) (H : Hp) (s : Shared) (x : V) (v : Value) (I : Inv X pins σ H s) (rx : RelV x v) (h : isDO x H) : s.TypeIs v "dict" ∧ ∀ a, v = .ref a → ∃ ob, s.heap.get? a = some ob ∧ ob.dict = none := by
  obtain ⟨a, es, ep, rfl, h⟩ := h
  obtain ⟨h1, h2, o, h3, h4, h5⟩ := dO_in I h
  cases rx
  exact ⟨⟨o, h3, h4.1⟩, fun b e => by cases e; exact ⟨o, h3, h4.2.1⟩⟩
def sMetD (g : Vl → GL) (a : SE) (fs : List SE) : SE := fun Γ S => (a Γ S).bind fun x S1 => match dcV S1 x with
  | some _ => (sArgs fs Γ S1).bind fun vs S2 => g x vs S2
  | none => .bad
def gGet (x : Vl) : GL := fun vs S => match dcV S x with
  | some kds => match vs with
    | [.d k] => if kindB kds k = true then .ok (.d ((dLook kds k).getD .none)) S else .bad
    | [.d k, v] => if kindB kds k = true then match dLook kds k with
        | some y => .ok (.d y) S
        | none => .ok v S
      else .bad
    | _ => .bad
  | none => .bad
/-- d.setdefault(k, v): v data -/
def gSetd (x : Vl) : GL := fun vs S => match x with
  | .o n => match dctOf S n with
    | some kds => match vs with
      | [.d k, .d v] => if kindB kds k = true ∧ kds.length < SZ then match dLook kds k with
          | some y => .ok (.d y) S
          | none => .ok (.d v) (S.set n (.dct (dPut kds k v)))
        else .bad
      | _ => .bad
    | none => .bad
  | _ => .bad
section
variable {X : Cx} {W : WX} {K : Fx} {H : Hp} {σ : L2.St} {Q : VK} {fo : SE} {fs : List SE}
theorem met_d {g : Vl → GL} (nx : NXM g) (h : LE X.F W (sMetD g fo fs) σ H Q) : tBMx isDO (rDM X.F g) (LE X.F W fo) (LA X.F W (sArgs fs)) σ H Q := by
  obtain ⟨Γ, S, ρ, hS, hE, hp⟩ := h
  refine ⟨Γ, S, ρ, hS, hE, Pst.bind hp fun va S1 ρ1 H1 x ev x1 hS1 q1 hp => ?_⟩
  split at hp
  · rename_i kds el
    obtain ⟨a, rfl, ok, es, ep, h1, h2⟩ := dc_rp hS1 q1 el
    refine ⟨⟨a, es, ep, rfl, h1⟩, Γ, S1, ρ1, hS1, hE.ext x1, Pst.bind hp fun vs S2 ρ2 H2 ys ev2 x2 hS2 q2 hp => ?_⟩
    obtain ⟨v, S', e, hc⟩ := hp.leaf (nx va vs S2)
    exact ⟨ρ2, S2, va, vs, v, S', hS2, q1.ext x2, q2, e, hc⟩
  · exact hp.elim
theorem nx_get : NXM gGet := by
  intro a vs S
  unfold gGet
  repeat' split
  all_goals trivial
theorem mt_get (hu : X.A.units + 64 < cLine) : MtR X "dict.get" (rDM X.F gGet) := by
  intro pins s σ H x xs v us Q I rx rxs ⟨ρ, S, va, vs, r, S', hS, hx, hv, hg, hc⟩
  unfold gGet at hg
  split at hg
  · rename_i kds ed
    obtain ⟨a, rfl, D⟩ := dc_rp hS hx ed
    cases rx
    split at hg
    · rename_i k
      split at hg
      · rename_i hk
        cases hg
        obtain ⟨y, rfl, hy⟩ := hv.one rfl
        obtain ⟨u, rfl, ru⟩ := vals1 rxs
        exact dd_get1 hu I D hk hy ru fun w' s' z I' rz hz => ⟨z, H, I', rz, hc.here hS hz⟩
      · cases hg
    · rename_i k w
      split at hg
      · rename_i hk
        obtain ⟨y, z, rfl, hy, hz⟩ := hv.two rfl
        obtain ⟨u1, u2, rfl, ru1, ru2⟩ := vals2 rxs
        refine dd_get2 hu I D hk hy ru1 ru2 (fun vd w' s' z' hl I' rz hz' => ?_) fun s' hl I' => ?_
        · rw [hl] at hg
          cases hg
          exact ⟨z', H, I', rz, hc.here hS hz'⟩
        · rw [hl] at hg
          cases hg
          exact ⟨z, H, I', ru2, hc.here hS hz⟩
      · cases hg
    · cases hg
  · cases hg
theorem all_few {pos : Pos} {env : PySem.Env} {es : List Expr} (h : (backTo pos (starEach es env)).any (·.1) = false) (hl : es.length < 30) : ((backTo pos (starEach es env)).all (fun x => !x.1) && (backToKw pos (keywordEach [] env)).all (fun x => x.1.isSome)
      && decide (es.length + ([] : List Keyword).length + (if ([] : List Keyword).isEmpty then 0 else 1) < 30)) = true := by
  have h1 : (backTo pos (starEach es env)).all (fun x => !x.1) = true := by
    rw [List.any_eq_false] at h
    rw [List.all_eq_true]
    intro x hx
    have := h x hx
    simpa using this
  rw [h1]
  show (true && (backToKw pos (keywordEach [] env)).all (fun x => x.1.isSome) && decide (es.length + 0 + 0 < 30)) = true
  rw [decide_eq_true (by omega)]
  rfl
theorem le_get {o a : Expr} {es : List Expr} {apos cpos : Pos} (hu : X.A.units + 64 < cLine) (hb : attributeBase o "get" X.env (eval o X.env) = eval o X.env) (hl : (apos.endLine == cpos.line) = true) (hs : starEach (a :: es) X.env = (false, eval a X.env) :: starEach es X.env) (hp : (backTo cpos (starEach es X.env)).any (·.1) = false) (hp2 : (backTo cpos (starEach (a :: es) X.env)).any (·.1) = false) (h30 : (a :: es).length < 30)
    (ho : PE X o (LE X.F W fo)) (ha : PA X (a :: es) (LA X.F W (sArgs fs))) : PE X (.Call (.Attribute o "get" apos) (a :: es) [] cpos) (LE X.F W (sMetD gGet fo fs)) :=
  (pe_bmx isDO_ty PySem.F.plainAttrs_dict PySem.F.slot_dict_get PySem.F.type_dict_get (mt_get hu) ho ha hb (all_few hp2 h30) hl hs hp).weak fun σ H Q h => met_d nx_get h
end

/-! ### new dicts -/
/-- {} as data; {} that will change -/
def sDct0 : SE := fun _ S => .ok (.d (.dict [])) S
def sDctN : SE := fun _ S => .ok (.o S.length) (S ++ [.dct []])
theorem kvs_nil : KvsOk [] := ⟨(fun p hp => nomatch hp), .inl (fun p hp => nomatch hp), List.nodup_nil⟩
section
variable {X : Cx} {W : WX} {pos : Pos}
def tDNew : TE := fun _ H Q => ∀ p, H p = none → Q (.ref p) (upd H p (dO p [] 0))
theorem pe_dnew : PE X (.Dict [] [] pos) tDNew := ⟨fun pins s σ H Q I h =>
  wpAny_Dict_empty ⟨.ref s.heap.objs.size, _, I.laid (a := s.heap.objs.size) (o := dO s.heap.objs.size [] 0) (t' := s.toks) (fun _ _ q => Heap.get?_push_of_some _ q) (Nat.le_refl _) (dd_new I 0), rfl, h _ (I.hok.fresh (Nat.le_refl _))⟩⟩
theorem le_dct0 : PE X (.Dict [] [] pos) (LE X.F W sDct0) := pe_dnew.weak fun σ H Q ⟨Γ, S, ρ, hS, hE, hp⟩ p hq =>
  hp ρ _ _ (hS.fresh hq).2 (hS.fresh hq).1 (show Rp _ _ _ _ _ from .dct upd_same (hS.notin hq) kvs_nil .nil)
theorem le_dctN : PE X (.Dict [] [] pos) (LE X.F W sDctN) := pe_dnew.weak fun σ H Q ⟨Γ, S, ρ, hS, hE, hp⟩ p hq => by
  obtain ⟨h1, h2⟩ := hS.alloc (u := .dct []) hq ⟨Pl.more_mem, [], 0, upd_same, kvs_nil, .nil⟩
  exact hp _ _ _ h2 h1 ⟨p, hS.at, rfl⟩
/-- {} whose values will be lists of its own -/
def sDctL : SE := fun _ S => .ok (.o S.length) (S ++ [.dcl []])
theorem le_dctL : PE X (.Dict [] [] pos) (LE X.F W sDctL) := pe_dnew.weak fun σ H Q ⟨Γ, S, ρ, hS, hE, hp⟩ p hq => by
  obtain ⟨h1, h2⟩ := hS.alloc (u := .dcl []) hq ⟨Pl.more_mem, [], 0, upd_same, kvs_nil, .nil⟩
  exact hp _ _ _ h2 h1 ⟨p, hS.at, rfl⟩
end

/-! ### sorted -/
def leD (a b : PyData) : Bool := !PySem.W.dataLt b a
def tupB : PyData → Bool
  | .tuple (_ :: _) => true
  | _ => false
def othB : PyData → Bool
  | .tuple _ => false
  | .none => false
  | _ => true
def sortB (ds : List PyData) : Bool := ds.all (fun a => ds.all fun b => PySem.W.alike a b) && (ds.all tupB || ds.all othB) && ds.all (fun d => decide (d.depth ≤ 60)) && decide (ds.length ≤ SZ) && PyData.plainAll ds
/-- rows (key, ..): the keys alike, equal ones in equal rows alone -/
def rowsB (ds : List PyData) : Bool := ds.all rowB && ds.all (fun a => ds.all fun b => PySem.W.alike (fstD a) (fstD b) && (!PyData.eqv (fstD a) (fstD b) || PyData.eqv a b)) && ds.all (fun d => decide (d.depth ≤ 60)) && decide (ds.length ≤ SZ) && PyData.plainAll ds
def gSort : G1 := fun a S => match sqOf S a with
  | some (.l ds) => if sortB ds = true then .ok (.d (.list (ds.mergeSort leD))) S else if rowsB ds = true then .ok (.d (.list (ds.mergeSort fun a b => leD (fstD a) (fstD b)))) S else .bad
  | _ => .bad
theorem rows_ok {ds : List PyData} (h : rowsB ds = true) : RowsOk ds ∧ (∀ d ∈ ds, d.depth ≤ 60) ∧ ds.length ≤ SZ := by
  unfold rowsB at h
  simp only [Bool.and_eq_true, List.all_eq_true, decide_eq_true_eq] at h
  obtain ⟨⟨⟨⟨h1, h2⟩, h3⟩, h4⟩, h5⟩ := h
  refine ⟨⟨fun d hd => ?_, fun d hd d' hd' => (h2 d hd d' hd').1, fun d hd d' hd' e => ?_, h5⟩, h3, h4⟩
  · have := h1 d hd
    revert this
    cases d with
    | tuple l => cases l with
      | nil => intro z; cases z
      | cons x r => exact fun _ => ⟨x, r, rfl⟩
    | _ => intro z; cases z
  · have := (h2 d hd d' hd').2
    rw [e] at this
    simpa using this
theorem sort_keys {ds : List PyData} (h : sortB ds = true) : PySem.W.AllAlike ds ∧ PySem.W.Sortable ds ∧ (∀ d ∈ ds, d.depth ≤ 60) ∧ ds.length ≤ SZ ∧ PyData.plainAll ds = true := by
  unfold sortB at h
  simp only [Bool.and_eq_true, Bool.or_eq_true, List.all_eq_true, decide_eq_true_eq] at h
  obtain ⟨⟨⟨⟨h1, h2⟩, h3⟩, h4⟩, h5⟩ := h
  refine ⟨fun d hd d' hd' => h1 d hd d' hd', ?_, h3, h4, h5⟩
  rcases h2 with h2 | h2
  · refine .inl fun d hd => ?_
    have := h2 d hd
    revert this
    cases d with
    | tuple l => cases l with
      | nil => intro z; cases z
      | cons x r => exact fun _ => ⟨x, r, rfl⟩
    | _ => intro z; cases z
  · refine .inr fun d hd => ?_
    have := h2 d hd
    refine ⟨fun z => ?_, fun xs z => ?_⟩ <;> (rw [z] at this; cases this)
theorem plain_mem : ∀ {ds : List PyData}, PyData.plainAll ds = true → ∀ d ∈ ds, d.plain = true
  | d :: ds, h, e, he => by
    have h' : d.plain = true ∧ PyData.plainAll ds = true := by simpa [PyData.plainAll] using h
    rcases List.mem_cons.mp he with rfl | he
    · exact h'.1
    · exact plain_mem h'.2 e he
theorem each_of_paired {α β : Type} {F : α → β → Prop} {G : β → α → Prop} (f : ∀ a b, F a b → G b a) : ∀ {l : List α} {r : List β}, Paired F l r → PySem.W.EachIs G r l
  | _, _, .nil => .nil
  | _, _, .cons h t => .cons (f _ _ h) (each_of_paired f t)
theorem paired_of_each {α β : Type} {F : α → β → Prop} {G : β → α → Prop} (f : ∀ a b, G b a → F a b) : ∀ {r : List β} {l : List α}, PySem.W.EachIs G r l → Paired F l r
  | _, _, .nil => .nil
  | _, _, .cons h t => .cons (f _ _ h) (paired_of_each f t)
/-- what is told of the items: the value, what it shows -/
theorem cd_sorted {X : Cx} (hu : X.A.units + 64 < cLine) : CallR X (.builtin "sorted") (rDL X.F (arg1 gSort)) := by
  intro pins s σ H xs us Q I rx h
  obtain ⟨x, ρ, S, va, r, S', rfl, hS, ha, hg, hc⟩ := rDL1 h
  unfold gSort at hg
  split at hg
  · rename_i ds e
    split at hg
    · rename_i hb
      cases hg
      obtain ⟨a, zs, rfl, h2, h3⟩ := sq_l hS ha e
      obtain ⟨u, rfl, ru⟩ := vals1 rx
      cases ru
      obtain ⟨k1, k2, k3, k4, k5⟩ := sort_keys hb
      obtain ⟨its, rv, hl, hz⟩ := I.list h2
      -- the items: V and data
      have hlen := h3.length
      have hlen2 := rv.length
      let bs : List (V × PyData) := zs.zip ds
      have hbs : bs.map (·.2) = ds := by rw [List.map_snd_zip]; omega
      have rel : PySem.W.EachIs (fun (v : Value) (b : V × PyData) => RelV b.1 v ∧ Rp X.F H ρ.m b.1 b.2) its bs := by
        have gen : ∀ (zs : List V) (ds : List PyData) (its : List Value), Vals zs its → RpL X.F H ρ.m zs ds → PySem.W.EachIs (fun (v : Value) (b : V × PyData) => RelV b.1 v ∧ Rp X.F H ρ.m b.1 b.2) its (zs.zip ds) := by
          intro zs
          induction zs with
          | nil => intro ds its hv hr; cases hv; cases hr; exact .nil
          | cons z zs ih =>
            intro ds its hv hr
            cases hv with
            | cons a b =>
              cases hr with
              | cons c d => exact .cons ⟨a, c⟩ (ih _ _ b d)
        exact gen zs ds its rv h3
      have er : PySem.W.EachIs (fun (v : Value) (b : V × PyData) => ∃ as, Reads s.heap v b.2 as) its bs := by
        have hp : ∀ b ∈ bs, b.2.plain = true := fun b hb => plain_mem k5 b.2 (by rw [← hbs]; exact List.mem_map.mpr ⟨b, hb, rfl⟩)
        have gen : ∀ {its : List Value} {bs : List (V × PyData)}, (∀ b ∈ bs, b.2.plain = true) → PySem.W.EachIs (fun (v : Value) (b : V × PyData) => RelV b.1 v ∧ Rp X.F H ρ.m b.1 b.2) its bs → PySem.W.EachIs (fun (v : Value) (b : V × PyData) => ∃ as, Reads s.heap v b.2 as) its bs := by
          intro its bs hp h
          induction h with
          | nil => exact .nil
          | cons a b ih => exact .cons (rd_reads I (hp _ List.mem_cons_self) a.2 a.1) (ih fun b hb => hp b (List.mem_cons_of_mem _ hb))
        exact gen hp rel
      have hlb : bs.length = ds.length := by show (zs.zip ds).length = _; rw [List.length_zip]; omega
      refine PySem.W.sorted_data (vs := its) (bs := bs) (enc := fun b => b.2) hl.isList rel er (by rw [hbs]; exact k1) (by rw [hbs]; exact k2) (by rw [hlb, ← SZ_eq]; exact k4) (fun b hb => ?_) fun out ho hout => ?_
      · have := k3 b.2 (by rw [← hbs]; exact List.mem_map.mpr ⟨b, hb, rfl⟩)
        show X.A.units + 2 + b.2.depth < cLine
        omega
      · obtain ⟨ep, he⟩ := PyProof.Rows.sortedAll_at s.heap its out.toArray
        have hm : (bs.mergeSort (PySem.W.dataLe false fun b => b.2)).map (·.2) = ds.mergeSort leD := by
          rw [← hbs]
          exact List.map_mergeSort fun a _ b _ => by rw [PySem.W.dataLe_eq]; rfl
        have hv : Vals ((bs.mergeSort (PySem.W.dataLe false fun b => b.2)).map (·.1)) out := by
          have gen : ∀ {out : List Value} {bs : List (V × PyData)}, PySem.W.EachIs (fun (v : Value) (b : V × PyData) => RelV b.1 v ∧ Rp X.F H ρ.m b.1 b.2) out bs → Vals (bs.map (·.1)) out := by
            intro out bs h
            induction h with
            | nil => exact .nil
            | cons a b ih => exact .cons a.1 ih
          exact gen hout
        have hr : RpL X.F H ρ.m ((bs.mergeSort (PySem.W.dataLe false fun b => b.2)).map (·.1)) (ds.mergeSort leD) := by
          rw [← hm]
          have gen : ∀ {out : List Value} {bs : List (V × PyData)}, PySem.W.EachIs (fun (v : Value) (b : V × PyData) => RelV b.1 v ∧ Rp X.F H ρ.m b.1 b.2) out bs → RpL X.F H ρ.m (bs.map (·.1)) (bs.map (·.2)) := by
            intro out bs h
            induction h with
            | nil => exact .nil
            | cons a b ih => exact .cons a.2 ih
          exact gen hout
        refine ⟨.ref _, upd H (s.heap.objs.size + 1) (.lst ((bs.mergeSort (PySem.W.dataLe false fun b => b.2)).map (·.1))), I.laid (t' := s.toks) (fun _ _ => PyProof.Rows.sortedAll_old) (Nat.le_succ _) ⟨?_, out, ep, hv, he⟩, rfl, fin_lst hS hr hc _ (I.hok.fresh (Nat.le_succ _))⟩
        rw [hr.length, List.length_mergeSort, ← SZ_eq]
        exact k4
    · split at hg
      · rename_i hb
        cases hg
        obtain ⟨a, zs, rfl, h2, h3⟩ := sq_l hS ha e
        obtain ⟨u, rfl, ru⟩ := vals1 rx
        cases ru
        obtain ⟨rok, k3, k4⟩ := rows_ok hb
        have k5 := rok.pln
        obtain ⟨its, rv, hl, hz⟩ := I.list h2
        -- the items: V and data
        have hlen := h3.length
        have hlen2 := rv.length
        let bs : List (V × PyData) := zs.zip ds
        have hbs : bs.map (·.2) = ds := by rw [List.map_snd_zip]; omega
        have rel : PySem.W.EachIs (fun (v : Value) (b : V × PyData) => RelV b.1 v ∧ Rp X.F H ρ.m b.1 b.2) its bs := by
          have gen : ∀ (zs : List V) (ds : List PyData) (its : List Value), Vals zs its → RpL X.F H ρ.m zs ds → PySem.W.EachIs (fun (v : Value) (b : V × PyData) => RelV b.1 v ∧ Rp X.F H ρ.m b.1 b.2) its (zs.zip ds) := by
            intro zs
            induction zs with
            | nil => intro ds its hv hr; cases hv; cases hr; exact .nil
            | cons z zs ih =>
              intro ds its hv hr
              cases hv with
              | cons a b =>
                cases hr with
                | cons c d => exact .cons ⟨a, c⟩ (ih _ _ b d)
          exact gen zs ds its rv h3
        have er : PySem.W.EachIs (fun (v : Value) (b : V × PyData) => ∃ as, Reads s.heap v b.2 as) its bs := by
          have hp : ∀ b ∈ bs, b.2.plain = true := fun b hb => plain_mem k5 b.2 (by rw [← hbs]; exact List.mem_map.mpr ⟨b, hb, rfl⟩)
          have gen : ∀ {its : List Value} {bs : List (V × PyData)}, (∀ b ∈ bs, b.2.plain = true) → PySem.W.EachIs (fun (v : Value) (b : V × PyData) => RelV b.1 v ∧ Rp X.F H ρ.m b.1 b.2) its bs → PySem.W.EachIs (fun (v : Value) (b : V × PyData) => ∃ as, Reads s.heap v b.2 as) its bs := by
            intro its bs hp h
            induction h with
            | nil => exact .nil
            | cons a b ih => exact .cons (rd_reads I (hp _ List.mem_cons_self) a.2 a.1) (ih fun b hb => hp b (List.mem_cons_of_mem _ hb))
          exact gen hp rel
        have hlb : bs.length = ds.length := by show (zs.zip ds).length = _; rw [List.length_zip]; omega
        refine sorted_rows (vs := its) (bs := bs) (enc := fun b => b.2) hl.isList rel er (by rw [hbs]; exact rok) (by rw [hlb, ← SZ_eq]; exact k4) (fun b hb => ?_) fun out ho hout => ?_
        · have := k3 b.2 (by rw [← hbs]; exact List.mem_map.mpr ⟨b, hb, rfl⟩)
          show X.A.units + 2 + b.2.depth < cLine
          omega
        · obtain ⟨ep, he⟩ := PyProof.Rows.sortedAll_at s.heap its out.toArray
          have hm : (bs.mergeSort (PySem.W.dataLe false fun b => fstD b.2)).map (·.2) = ds.mergeSort fun a b => leD (fstD a) (fstD b) := by
            rw [← hbs]
            exact List.map_mergeSort fun a _ b _ => by rw [PySem.W.dataLe_eq]; rfl
          have hv : Vals ((bs.mergeSort (PySem.W.dataLe false fun b => fstD b.2)).map (·.1)) out := by
            have gen : ∀ {out : List Value} {bs : List (V × PyData)}, PySem.W.EachIs (fun (v : Value) (b : V × PyData) => RelV b.1 v ∧ Rp X.F H ρ.m b.1 b.2) out bs → Vals (bs.map (·.1)) out := by
              intro out bs h
              induction h with
              | nil => exact .nil
              | cons a b ih => exact .cons a.1 ih
            exact gen hout
          have hr : RpL X.F H ρ.m ((bs.mergeSort (PySem.W.dataLe false fun b => fstD b.2)).map (·.1)) (ds.mergeSort fun a b => leD (fstD a) (fstD b)) := by
            rw [← hm]
            have gen : ∀ {out : List Value} {bs : List (V × PyData)}, PySem.W.EachIs (fun (v : Value) (b : V × PyData) => RelV b.1 v ∧ Rp X.F H ρ.m b.1 b.2) out bs → RpL X.F H ρ.m (bs.map (·.1)) (bs.map (·.2)) := by
              intro out bs h
              induction h with
              | nil => exact .nil
              | cons a b ih => exact .cons a.2 ih
            exact gen hout
          refine ⟨.ref _, upd H (s.heap.objs.size + 1) (.lst ((bs.mergeSort (PySem.W.dataLe false fun b => fstD b.2)).map (·.1))), I.laid (t' := s.toks) (fun _ _ => PyProof.Rows.sortedAll_old) (Nat.le_succ _) ⟨?_, out, ep, hv, he⟩, rfl, fin_lst hS hr hc _ (I.hok.fresh (Nat.le_succ _))⟩
          rw [hr.length, List.length_mergeSort, ← SZ_eq]
          exact k4
      · cases hg
  · cases hg
/-! ### sum, max, min of a list of ints -/
def intsOf : List PyData → Option (List Int)
  | [] => some []
  | .int i :: r => (intsOf r).map (i :: ·)
  | _ :: _ => none
theorem ints_rp {K : Fx} {H : Hp} {m : List Addr} : ∀ {ds : List PyData} {xs : List V} {bs : List Int}, RpL K H m xs ds → intsOf ds = some bs → xs = bs.map V.int
  | [], _, _, h, e => by cases h; cases e; rfl
  | d :: ds, _, bs, h, e => by
    cases h with
    | cons a b =>
      cases d with
      | int k =>
        obtain ⟨l, h1, h2⟩ := Option.map_eq_some_iff.mp (show (intsOf ds).map (k :: ·) = some bs from e)
        subst h2
        cases a
        rw [ints_rp b h1]
        rfl
      | _ => cases e
def gSum : G1 := fun a S => match sqOf S a with
  | some (.l ds) => match intsOf ds with
    | some bs => .ok (.d (.int bs.sum)) S
    | none => .bad
  | _ => .bad
def gMax1 : G1 := fun a S => match sqOf S a with
  | some (.l ds) => match intsOf ds with
    | some (n :: ns) => .ok (.d (.int (ns.foldl max n))) S
    | _ => .bad
  | _ => .bad
def gMin1 : G1 := fun a S => match sqOf S a with
  | some (.l ds) => match intsOf ds with
    | some (n :: ns) => .ok (.d (.int (ns.foldl min n))) S
    | _ => .bad
  | _ => .bad
theorem foldl_max : ∀ (ns : List Int) (n : Int), ns.foldl max n ∈ n :: ns ∧ ∀ y ∈ n :: ns, y ≤ ns.foldl max n
  | [], n => ⟨List.mem_cons_self, fun y hy => by rw [List.mem_singleton.mp hy]; exact Int.le_refl _⟩
  | m :: ns, n => by
    obtain ⟨h1, h2⟩ := foldl_max ns (max n m)
    rw [List.foldl_cons]
    have h3 := h2 (max n m) List.mem_cons_self
    refine ⟨?_, fun y hy => ?_⟩
    · rcases List.mem_cons.mp h1 with e | e
      · rw [e]
        rcases Int.le_total n m with q | q
        · rw [Int.max_eq_right q]; exact List.mem_cons_of_mem _ List.mem_cons_self
        · rw [Int.max_eq_left q]; exact List.mem_cons_self
      · exact List.mem_cons_of_mem _ (List.mem_cons_of_mem _ e)
    · rcases List.mem_cons.mp hy with rfl | hy
      · omega
      · rcases List.mem_cons.mp hy with rfl | hy
        · omega
        · exact h2 y (List.mem_cons_of_mem _ hy)
theorem foldl_min : ∀ (ns : List Int) (n : Int), ns.foldl min n ∈ n :: ns ∧ ∀ y ∈ n :: ns, ns.foldl min n ≤ y
  | [], n => ⟨List.mem_cons_self, fun y hy => by rw [List.mem_singleton.mp hy]; exact Int.le_refl _⟩
  | m :: ns, n => by
    obtain ⟨h1, h2⟩ := foldl_min ns (min n m)
    rw [List.foldl_cons]
    have h3 := h2 (min n m) List.mem_cons_self
    refine ⟨?_, fun y hy => ?_⟩
    · rcases List.mem_cons.mp h1 with e | e
      · rw [e]
        rcases Int.le_total n m with q | q
        · rw [Int.min_eq_left q]; exact List.mem_cons_self
        · rw [Int.min_eq_right q]; exact List.mem_cons_of_mem _ List.mem_cons_self
      · exact List.mem_cons_of_mem _ (List.mem_cons_of_mem _ e)
    · rcases List.mem_cons.mp hy with rfl | hy
      · omega
      · rcases List.mem_cons.mp hy with rfl | hy
        · omega
        · exact h2 y (List.mem_cons_of_mem _ hy)
section
variable {X : Cx}
theorem cd_sum (hc : X.calm = true) : CallR X (.builtin "sum") (rDL X.F (arg1 gSum)) := by
  intro pins s σ H xs us Q I rx h
  obtain ⟨x, ρ, S, va, r, S', rfl, hS, ha, hg, hc'⟩ := rDL1 h
  unfold gSum at hg
  split at hg
  · rename_i ds e
    split at hg
    · rename_i bs eb
      cases hg
      obtain ⟨a, xs, rfl, h2, h3⟩ := sq_l hS ha e
      have e3 := ints_rp h3 eb
      subst e3
      exact cr_sum hc pins s σ H _ us Q I rx ⟨_, _, rfl, h2, hc'.here hS (show Rp _ _ _ _ _ from .int _)⟩
    · cases hg
  · cases hg
theorem cd_max1 (hc : X.calm = true) : CallR X (.builtin "max") (rDL X.F (arg1 gMax1)) := by
  intro pins s σ H xs us Q I rx h
  obtain ⟨x, ρ, S, va, r, S', rfl, hS, ha, hg, hc'⟩ := rDL1 h
  unfold gMax1 at hg
  split at hg
  · rename_i ds e
    split at hg
    · rename_i n ns eb
      cases hg
      obtain ⟨a, xs, rfl, h2, h3⟩ := sq_l hS ha e
      have e3 := ints_rp h3 eb
      subst e3
      refine cr_max hc pins s σ H _ us Q I rx ⟨_, _, rfl, h2, Nat.succ_pos _, fun m hm hy => ?_⟩
      obtain ⟨f1, f2⟩ := foldl_max ns n
      have : m = ns.foldl max n := Int.le_antisymm (f2 m hm) (hy _ f1)
      rw [this]
      exact hc'.here hS (show Rp _ _ _ _ _ from .int _)
    · cases hg
  · cases hg
theorem cd_min1 (hc : X.calm = true) : CallR X (.builtin "min") (rDL X.F (arg1 gMin1)) := by
  intro pins s σ H xs us Q I rx h
  obtain ⟨x, ρ, S, va, r, S', rfl, hS, ha, hg, hc'⟩ := rDL1 h
  unfold gMin1 at hg
  split at hg
  · rename_i ds e
    split at hg
    · rename_i n ns eb
      cases hg
      obtain ⟨a, xs, rfl, h2, h3⟩ := sq_l hS ha e
      have e3 := ints_rp h3 eb
      subst e3
      refine cr_min hc pins s σ H _ us Q I rx ⟨_, _, rfl, h2, Nat.succ_pos _, fun m hm hy => ?_⟩
      obtain ⟨f1, f2⟩ := foldl_min ns n
      have : m = ns.foldl min n := Int.le_antisymm (hy _ f1) (f2 m hm)
      rw [this]
      exact hc'.here hS (show Rp _ _ _ _ _ from .int _)
    · cases hg
  · cases hg
end
end L2.Pv

set_option Elab.async false
set_option linter.all false
set_option maxRecDepth 100000
namespace L2.Pv
open PySem PySem.Spec PyProof.Rows L2

/-! ### defs -/
def finO (keep : Bool) (n : Nat) (S : Sto) : Option Ob → R Vl
  | some (.lst ds) => if keep = true then .ok (.o n) (S.take n ++ [.lst ds]) else .ok (.d (.list ds)) (S.take n)
  | some (.dct kds) => if keep = true then .ok (.o n) (S.take n ++ [.dct kds]) else .ok (.d (.dict kds)) (S.take n)
  | some (.dcl kds) => if keep = true then .bad else .ok (.d (.dict kds)) (S.take n)
  | some (.lsl ds) => if keep = true then .bad else .ok (.d (.list ds)) (S.take n)
  | _ => .bad
def fin (keep : Bool) (n : Nat) (v : Vl) (S : Sto) : R Vl := match v with
  | .d d => .ok (.d d) (S.take n)
  | .k _ => .bad
  | .x _ _ => .bad
  | .o m => if m < n then .ok (.o m) (S.take n) else finO keep n S S[m]?
theorem nx_fin {keep : Bool} {n : Nat} {v : Vl} {S : Sto} : NoX (fin keep n v S) := by
  unfold fin
  split
  · trivial
  · trivial
  · trivial
  · split
    · trivial
    · unfold finO
      repeat' split
      all_goals trivial
section
variable {P : Program} {w : World} {K : Fx} {mg : Str → Option Value} {base : Heap} {ρ ρ' : Pl} {S S1 S' : Sto} {H H' : Hp}
/-- the new objects are gone -/
def Pl.gone (ρ ρ' : Pl) : List Addr := ownS (ρ'.sl.drop ρ.sl.length)
def Pl.back (ρ ρ' : Pl) : Pl := ⟨ρ'.sl.take ρ.sl.length, ρ'.m.filter fun b => decide (b ∉ ρ.gone ρ')⟩
theorem back_mem {b : Addr} : b ∈ (Pl.back ρ ρ').m ↔ b ∈ ρ'.m ∧ b ∉ ρ.gone ρ' := by
  show b ∈ ρ'.m.filter _ ↔ _
  rw [List.mem_filter]
  simp
theorem sl_le (hx : Ext ρ H ρ' H') : ρ.sl.length ≤ ρ'.sl.length := by
  cases e : ρ.sl.length with
  | zero => exact Nat.zero_le _
  | succ n =>
    have h1 : ρ.ad[n]? = some (ρ.ad[n]'(by rw [ad_len]; omega)) := List.getElem?_eq_getElem _
    have h2 := (List.getElem?_eq_some_iff.mp (hx.ad h1)).1
    rw [ad_len] at h2
    omega
theorem back_sl (hx : Ext ρ H ρ' H') {n : Nat} {a : Addr} {l : List Addr} (h : ρ.sl[n]? = some (a, l)) : ∃ l', (ρ'.sl.take ρ.sl.length)[n]? = some (a, l ++ l') := by
  obtain ⟨l', hl⟩ := hx.slk n a l h
  refine ⟨l', ?_⟩
  rw [List.getElem?_take_of_lt (List.getElem?_eq_some_iff.mp h).1]
  exact hl
theorem own_split : ρ'.own = ownS (ρ'.sl.take ρ.sl.length) ++ ρ.gone ρ' := by
  show ownS ρ'.sl = ownS _ ++ ownS _
  rw [← ownS_app, List.take_append_drop]
/-- what goes was not there before, and is not owned by what stays -/
theorem gone_own (hS : StR K ρ S H) (hx : Ext ρ H ρ' H') (hS1 : StR K ρ' S1 H') {a : Addr} (h : a ∈ ρ.gone ρ') : a ∈ ρ'.own := by
  rw [own_split (ρ := ρ)]
  exact List.mem_append_right _ h
theorem gone_ad (hS1 : StR K ρ' S1 H') {a : Addr} (h : a ∈ ρ.gone ρ') : ∀ b ∈ ownS (ρ'.sl.take ρ.sl.length), b ≠ a := fun b hb z => by
  have nd := hS1.nd
  rw [own_split (ρ := ρ), List.nodup_append] at nd
  exact nd.2.2 b hb a h z
theorem ownS_take {s : List (Addr × List Addr)} {n : Nat} {a : Addr} (h : a ∈ ownS (s.take n)) : a ∈ ownS s := by
  obtain ⟨p, hp, hb⟩ := List.mem_flatMap.mp h
  exact own_of (List.mem_of_mem_take hp) hb
theorem back_ok (hS : StR K ρ S H) (hx : Ext ρ H ρ' H') (hS1 : StR K ρ' S1 H') :
    Ext ρ H (Pl.back ρ ρ') H' ∧ StR K (Pl.back ρ ρ') (S1.take S.length) H' ∧ Cov ρ'.m H' (Pl.back ρ ρ').m H' := by
  have hl := hS.len
  have cv : Cov ρ'.m H' (Pl.back ρ ρ').m H' := Cov.less fun b hb => (back_mem.mp hb).1
  refine ⟨⟨fun n a l h => back_sl hx h, fun a ha => hx.ownk a (ownS_take ha), hx.keep, fun a o ea hna hm => hx.out a o ea hna (back_mem.mp hm).1, fun a ha hna => ⟨back_mem.mpr ⟨(hx.stay a ha hna).1, fun z => (hx.stay a ha hna).2 (gone_own hS hx hS1 z)⟩, fun z => (hx.stay a ha hna).2 (ownS_take z)⟩, hx.trk⟩,
    ⟨?_, fun a ha => hS1.tk a (back_mem.mp ha).1, fun a ha => hS1.tka a (ownS_take ha), ?_⟩, cv⟩
  · have nd := hS1.nd
    rw [own_split (ρ := ρ), List.nodup_append] at nd
    exact nd.1
  · have := pairedTake ρ.sl.length hS1.all
    rw [hl] at this
    show Paired _ (ρ'.sl.take ρ.sl.length) _
    rw [hl]
    exact pairedMono this fun p u hp q => q.cov cv (fun b _ => rfl) fun b hb z => back_mem.mpr ⟨z, fun y => gone_ad hS1 y b (own_of (by rw [hl]; exact hp) hb) rfl⟩
theorem own_stays (hx : Ext ρ H ρ' H') {a : Addr} (h : a ∈ ρ.own) : a ∈ ownS (ρ'.sl.take ρ.sl.length) := by
  obtain ⟨q, hq, hb⟩ := List.mem_flatMap.mp h
  obtain ⟨n, hn⟩ := List.getElem?_of_mem hq
  obtain ⟨l', hl'⟩ := hx.slk n q.1 q.2 hn
  have h2 : (ρ'.sl.take ρ.sl.length)[n]? = some (q.1, q.2 ++ l') := by
    rw [List.getElem?_take_of_lt (List.getElem?_eq_some_iff.mp hn).1]
    exact hl'
  refine own_of (List.mem_of_getElem? h2) ?_
  rcases List.mem_cons.mp hb with rfl | hb
  · exact List.mem_cons_self
  · exact List.mem_cons_of_mem _ (List.mem_append_left _ hb)
/-- all but one of them -/
def Pl.back1 (ρ ρ' : Pl) (a : Addr) : Pl := ⟨ρ'.sl.take ρ.sl.length ++ [(a, [])], ρ'.m.filter fun b => decide (b ∉ ρ.gone ρ' ∨ b = a)⟩
theorem back1_own {a : Addr} : (Pl.back1 ρ ρ' a).own = ownS (ρ'.sl.take ρ.sl.length) ++ [a] := ownS_app _ _
theorem back1_mem {b a : Addr} : b ∈ (Pl.back1 ρ ρ' a).m ↔ b ∈ ρ'.m ∧ (b ∉ ρ.gone ρ' ∨ b = a) := by
  show b ∈ ρ'.m.filter _ ↔ _
  rw [List.mem_filter]
  simp
theorem back1_ok {a : Addr} {p : Ob} (hS : StR K ρ S H) (hx : Ext ρ H ρ' H') (hS1 : StR K ρ' S1 H') (ham : a ∈ ρ.gone ρ') (hp : ObR K H' (Pl.back1 ρ ρ' a).m a [] p) (hpm : a ∈ ρ'.m) :
    Ext ρ H (Pl.back1 ρ ρ' a) H' ∧ StR K (Pl.back1 ρ ρ' a) (S1.take S.length ++ [p]) H' := by
  have hl := hS.len
  have cv : Cov ρ'.m H' (Pl.back1 ρ ρ' a).m H' := Cov.less fun b hb => (back1_mem.mp hb).1
  have hao := gone_own hS hx hS1 ham
  have haρ : a ∉ ρ.own := fun z => gone_ad hS1 ham a (own_stays hx z) rfl
  have haH : H a = none := by
    rcases hx.ownk a hao with z | z
    · exact absurd z haρ
    · exact z
  refine ⟨⟨fun n b l h => ?_, fun b hb => ?_, hx.keep, fun b o ea hna hm => hx.out b o ea hna (back1_mem.mp hm).1, fun b hb hna => ⟨back1_mem.mpr ⟨(hx.stay b hb hna).1, .inl fun z => (hx.stay b hb hna).2 (gone_own hS hx hS1 z)⟩, fun hm => ?_⟩, hx.trk⟩,
    ⟨?_, fun b hb => hS1.tk b (back1_mem.mp hb).1, fun b hb => ?_, pairedAppend ?_ (.cons hp .nil)⟩⟩
  · obtain ⟨l', h'⟩ := hx.slk n b l h
    have hn := (List.getElem?_eq_some_iff.mp h).1
    have h2 : (ρ'.sl.take ρ.sl.length)[n]? = some (b, l ++ l') := by
      rw [List.getElem?_take_of_lt hn]
      exact h'
    refine ⟨l', ?_⟩
    show (ρ'.sl.take ρ.sl.length ++ [(a, [])])[n]? = _
    rw [List.getElem?_append_left (List.getElem?_eq_some_iff.mp h2).1]
    exact h2
  · rw [back1_own] at hb
    rcases List.mem_append.mp hb with hb | hb
    · exact hx.ownk b (ownS_take hb)
    · rw [List.mem_singleton.mp hb]; exact .inr haH
  · rw [back1_own] at hm
    rcases List.mem_append.mp hm with hm | hm
    · exact (hx.stay b hb hna).2 (ownS_take hm)
    · rw [List.mem_singleton.mp hm] at hb
      exact hS.tk a hb haH
  · rw [back1_own, List.nodup_append]
    have nd := hS1.nd
    rw [own_split (ρ := ρ), List.nodup_append] at nd
    refine ⟨nd.1, by simp, fun b hb c hc z => ?_⟩
    rw [List.mem_singleton.mp hc] at z
    exact gone_ad hS1 ham b hb z
  · rw [back1_own] at hb
    rcases List.mem_append.mp hb with hb | hb
    · exact hS1.tka b (ownS_take hb)
    · rw [List.mem_singleton.mp hb]
      exact hS1.tk a hpm
  · have := pairedTake ρ.sl.length hS1.all
    rw [hl] at this ⊢
    exact pairedMono this fun q u hq z => z.cov cv (fun b _ => rfl) fun b hb y => back1_mem.mpr ⟨y, .inl fun w => gone_ad hS1 w b (own_of (by rw [hl]; exact hq) hb) rfl⟩
theorem back_xd (hS : StR K ρ S H) (hx : Ext ρ H ρ' H') (hS1 : StR K ρ' S1 H') {gs : Fds} {d : Option Addr} (h : XdR K H' ρ'.m gs d) : XdR K H' (Pl.back ρ ρ').m gs d := h.cov (back_ok hS hx hS1).2.2
theorem fin_ok {keep : Bool} {v r : Vl} {x : V} (hS : StR K ρ S H) (hx : Ext ρ H ρ' H') (hS1 : StR K ρ' S1 H') (hv : Vr K H' ρ' x v) (h : fin keep S.length v S1 = .ok r S') :
    ∃ ρ2, Ext ρ H ρ2 H' ∧ StR K ρ2 S' H' ∧ Vr K H' ρ2 x r := by
  have hl := hS.len
  obtain ⟨e1, s1, cv⟩ := back_ok hS hx hS1
  cases v with
  | d d =>
    cases h
    exact ⟨_, e1, s1, Rp.cov cv _ _ hv⟩
  | k ds => cases h
  | x c fs => cases h
  | o m =>
    obtain ⟨a, ha, rfl⟩ := hv
    simp only [fin] at h
    split at h
    · rename_i hm
      cases h
      refine ⟨_, e1, s1, a, ?_, rfl⟩
      obtain ⟨l, hal⟩ := ad_at.mp ha
      refine ad_at.mpr ⟨l, ?_⟩
      show (ρ'.sl.take ρ.sl.length)[m]? = _
      rw [List.getElem?_take_of_lt (by omega)]
      exact hal
    · rename_i hm
      obtain ⟨l, hal⟩ := ad_at.mp ha
      have hin : ∀ b ∈ a :: l, b ∈ ρ.gone ρ' := fun b hb => by
        refine own_of (p := (a, l)) ?_ hb
        have : (ρ'.sl.drop ρ.sl.length)[m - ρ.sl.length]? = some (a, l) := by
          rw [List.getElem?_drop, ← hal]
          congr 1
          omega
        exact List.mem_of_getElem? this
      have ham := hin a List.mem_cons_self
      have hlen : (ρ'.sl.take ρ.sl.length).length = ρ.sl.length := by rw [List.length_take]; have := sl_le hx; omega
      have hat : (Pl.back1 ρ ρ' a).ad[S.length]? = some a := by
        refine ad_at.mpr ⟨[], ?_⟩
        show (ρ'.sl.take ρ.sl.length ++ [(a, [])])[S.length]? = some (a, [])
        rw [List.getElem?_append_right (by omega), hlen, hl, Nat.sub_self]
        rfl
      have hnm : ∀ b ∈ a :: l, b ∉ (Pl.back ρ ρ').m := fun b hb z => (back_mem.mp z).2 (hin b hb)
      unfold finO at h
      split at h
      · rename_i ds el
        have ho := hS1.getL hal el
        obtain ⟨hm1, xs, h3, h4⟩ := id ho
        split at h
        · cases h
          obtain ⟨e2, s2⟩ := back1_ok (p := .lst ds) hS hx hS1 ham ⟨back1_mem.mpr ⟨hm1, .inr rfl⟩, xs, h3, RpL.cov (Cov.less fun b hb => (back1_mem.mp hb).1) _ _ h4⟩ hm1
          exact ⟨_, e2, s2, a, hat, rfl⟩
        · cases h
          exact ⟨_, e1, s1, (show Rp _ _ _ _ _ from .lst ⟨h3, hnm a List.mem_cons_self⟩ (RpL.cov cv _ _ h4))⟩
      · rename_i kds el
        have ho := hS1.getL hal el
        obtain ⟨hm1, es, ep, h3, h4, h5⟩ := id ho
        split at h
        · cases h
          obtain ⟨e2, s2⟩ := back1_ok (p := .dct kds) hS hx hS1 ham ⟨back1_mem.mpr ⟨hm1, .inr rfl⟩, es, ep, h3, h4, RpD.cov (Cov.less fun b hb => (back1_mem.mp hb).1) _ _ h5⟩ hm1
          exact ⟨_, e2, s2, a, hat, rfl⟩
        · cases h
          exact ⟨_, e1, s1, (show Rp _ _ _ _ _ from .dct h3 (hnm a List.mem_cons_self) h4 (RpD.cov cv _ _ h5))⟩
      · rename_i kds el
        have ho := hS1.getL hal el
        obtain ⟨hm1, es, ep, h3, h4, h5⟩ := id ho
        split at h
        · cases h
        · cases h
          exact ⟨_, e1, s1, (show Rp _ _ _ _ _ from .dct h3 (hnm a List.mem_cons_self) h4 (OwD.rp (fun b hb => hnm b (List.mem_cons_of_mem _ hb)) (fun _ _ q => Rp.cov cv _ _ q) (fun _ _ q => RpL.cov cv _ _ q) h5))⟩
      · rename_i ds el
        have ho := hS1.getL hal el
        obtain ⟨hm1, h3, h4⟩ := id ho
        split at h
        · cases h
        · cases h
          exact ⟨_, e1, s1, (show Rp _ _ _ _ _ from .lst ⟨h3, hnm a List.mem_cons_self⟩ (OwL.rp (fun b hb => hnm b (List.mem_cons_of_mem _ hb)) (fun _ _ q => Rp.cov cv _ _ q) (fun _ _ q => RpL.cov cv _ _ q) h4))⟩
      · cases h
/-- what an expression has made goes, its value stays as data -/
def sFr (e : SE) : SE := fun Γ S => (e Γ S).bind fun v S1 => fin false S.length v S1
theorem fr_le {W : WX} {f : SE} {σ : L2.St} {Q : VK} (h : LE K W (sFr f) σ H Q) : LE K W f σ H Q := by
  obtain ⟨Γ, S, ρ, hS, hE, hp⟩ := h
  refine ⟨Γ, S, ρ, hS, hE, ?_⟩
  cases e : f Γ S with
  | bad => unfold sFr at hp; rw [e] at hp; exact hp.elim
  | exc c fs S1 => unfold sFr at hp; rw [e] at hp; exact hp
  | ok v S1 =>
    unfold sFr at hp
    rw [e] at hp
    obtain ⟨r, S', hf, hc⟩ := Pst.leaf (r := fin false S.length v S1) hp nx_fin
    intro ρ1 H1 x hx hS1 hv
    obtain ⟨ρ2, g1, g2, g3⟩ := fin_ok (keep := false) hS hx hS1 hv hf
    exact hc ρ2 H1 x g1 g2 g3
end
end L2.Pv

set_option Elab.async false
set_option linter.all false
set_option maxRecDepth 100000
/-! Pv: {k: v}; a < b < c; list(range(n)); a, b, c = x, y, z -/
namespace L2.Pv
open PySem PySem.Spec PyProof.Rows L2
section
variable {X : Cx} {pins : List (Addr × Obj)} {σ : L2.St} {H : Hp} {s : Shared} {m : List Addr} {a : Addr} {es : List DictEntry} {ep : Nat} {kds : Kvs} {kd : PyData} {x : V} {u : Value} {A : Around} {E : Value → Shared → Prop}
theorem dd_dictSet {Q : Unit → Shared → Prop} {y : V} {r : Value} {vd : PyData} (hu : A.units + 64 < cLine) (I : Inv X pins σ H s) (D : DctAt X.F H m a kds) (hk : kindB kds kd = true) (hl : kds.length < sizeLine) (hx : Rp X.F H m x kd) (rx : RelV x u) (ry : RelV y r) (hy : Rp X.F H m y vd)
    (h : ∀ es' ep' s', RpD X.F H m es' (dPut kds kd vd) → Inv X pins σ (upd H a (dO a es' ep')) s' → Q () s') : wpAny (model X.prog X.w) A (dictSet a u r) Q E s := by
  have hd := (D.typeIs I).2.2
  obtain ⟨ok, es, ep, ha, hr⟩ := D
  obtain ⟨k1, k2⟩ := kind_of ok hk
  have mu : Mut (H a) := by rw [ha]; exact True.intro
  have fin : ∀ {es' : List DictEntry} {ep' : Nat} {h' : Heap} {t' : Nat} {o : Obj}, RpD X.F H m es' (dPut kds kd vd) → Heap.SameBut a s.heap h' → h'.get? a = some o → o.ExactDict → o.data = .dict es'.toArray ep' → Q () { s with heap := h', toks := t' } := fun {es' ep' h' t' o} q1 q2 q3 q4 q5 => by
    refine h es' ep' _ q1 (d_write I mu q2 ⟨o, q3⟩ (dO_ok hd ?_ q3 q4 q5))
    have := put_len (kds := kds) (kd := kd) (vd := vd)
    rw [q1.length]
    omega
  rcases k2 with ⟨e, k2⟩ | ⟨e, k2⟩
  · obtain ⟨b, k, rfl, rfl, e2, his⟩ := tup_key I e k1 hx rx
    obtain ⟨xs, h1, h2, h3⟩ := dct_H I ok k2 ha hr
    refine wpAny_dictSet_heap (knd := nestedKind X.prog X.w) (hsz := h3) (show A.units + 8 < cLine by omega) his h2 fun h' dd' hs => ?_
    obtain ⟨o, es', ep', q1, q2, q3, q4, _, _⟩ := dd'
    exact fin (es' := es'.toList) (xr_back (P := X.prog) (xr_put e2 hx ry hy h1) |> fun z => by rw [q4]; exact z) hs q1 q2 (by rw [Array.toArray_toList]; exact q3)
  · obtain ⟨k, rfl, e2, his⟩ := lf_key e k1 hx rx
    obtain ⟨vs, h1, h2, h3⟩ := dct_L I ok k2 ha hr
    refine wpAny_dictSet_pairs (hsz := h3) his h2 fun h' dd' hs => ?_
    obtain ⟨o, es', ep', q1, q2, q3, q4, q5, _⟩ := dd'
    exact fin (es' := es'.toList) (lr_back (P := X.prog) (lr_put e2 hx ry hy h1) q5 fun e he => q4 e (by simpa using he)) hs q1 q2 (by rw [Array.toArray_toList]; exact q3)
end
/-- {k: v} that will change -/
def sDct1 (fk fv : SE) : SE := fun Γ S => (fk Γ (S ++ [.dct []])).bind fun kv S1 => (fv Γ S1).bind fun vv S2 => match kv with
  | .d kd => match vv with
    | .d vd => match dctOf S2 S.length with
      | some [] => if keyB kd = true then .ok (.o S.length) (S2.set S.length (.dct [(kd, vd)])) else .bad
      | _ => .bad
    | _ => .bad
  | _ => .bad
/-- {k: v} as data -/
def sChain (g1 g2 : G2) (a b c : SE) : SE := fun Γ S => (a Γ S).bind fun x S1 => (b Γ S1).bind fun y S2 => (g1 x y S2).bind fun z S3 => match boolOf z with
  | some true => (c Γ S3).bind fun u S4 => g2 y u S4
  | some false => .ok (.d (.bool false)) S3
  | none => .bad
def sLrg (a : SE) : SE := fun Γ S => (a Γ S).bind fun v S1 => match intOf v with
  | some j => if -(2 ^ 62) ≤ j ∧ j ≤ 16777216 then .ok (.d (.list (rngIts 0 j.toNat))) S1 else .bad
  | none => .bad
/-- l + m, a list that will change -/
def gAddN : G2 := fun a b S => match lsV S a with
  | some x => match lsV S b with
    | some y => if x.length + y.length ≤ SZ then .ok (.o S.length) (S ++ [.lst (x ++ y)]) else .bad
    | none => .bad
  | none => .bad
theorem opd_gAddN {X : Cx} : OpR X (binaryOp .Add) (rD X.F gAddN) := by
  intro pins s σ H x y v u Q I rx ry h
  obtain ⟨ρ, S, va, vb, r, S', hS, ha, hb, hg, hc⟩ := h
  unfold gAddN at hg
  split at hg
  · rename_i xs ea
    split at hg
    · rename_i ys eb
      split at hg
      · rename_i hz
        cases hg
        obtain ⟨a, vs, rfl, h1, h2⟩ := ls_rp hS ha ea
        obtain ⟨b, us, rfl, h3, h4⟩ := ls_rp hS hb eb
        exact op_cat pins s σ H _ _ v u Q I rx ry ⟨_, _, _, _, rfl, rfl, h1, h3, by rw [h2.length, h4.length, ← SZ_eq]; exact hz, fin_new hS (h2.append h4) hc⟩
      · cases hg
    · cases hg
  · cases hg
def sPar3 (i j l : Nat) (a b c : SE) : SS := fun Γ S => (a Γ S).bind fun u S1 => (b Γ S1).bind fun v S2 => (c Γ S2).bind fun w S3 => .ok (.nx (((Γ.set i (some u)).set j (some v)).set l (some w))) S3
section
variable {X : Cx} {W : WX} {a b c : Expr} {fa fb fc : SE} {pos : Pos} {st : Stmt}
theorem dct1_ok {kv vv v : Vl} {S2 S' : Sto} {n : Nat} (hf : (match kv with
  | .d kd => match vv with
    | .d vd => match dctOf S2 n with
      | some [] => if keyB kd = true then R.ok (Vl.o n) (S2.set n (.dct [(kd, vd)])) else R.bad
      | _ => R.bad
    | _ => R.bad
  | _ => (R.bad : R Vl)) = R.ok v S') : ∃ kd vd, kv = .d kd ∧ vv = .d vd ∧ dctOf S2 n = some [] ∧ keyB kd = true ∧ v = .o n ∧ S' = S2.set n (.dct [(kd, vd)]) := by
  split at hf
  · split at hf
    · split at hf
      · rename_i ed
        split at hf
        · rename_i hk
          cases hf
          exact ⟨_, _, rfl, rfl, ed, hk, rfl, rfl⟩
        · cases hf
      · cases hf
    · cases hf
  · cases hf
theorem le_dct1 (hu : X.A.units + 64 < cLine) (ha : PE X a (LE X.F W fa)) (hb : PE X b (LE X.F W fb)) : PE X (.Dict [some a] [b] pos) (LE X.F W (sDct1 fa fb)) := ⟨fun pins s σ H Q I ⟨Γ, S, ρ, hS, hE, hp0⟩ => by
  have hp : H s.heap.objs.size = none := I.hok.fresh (Nat.le_refl _)
  have hsh : (evalEachOpt [some a] X.env).zip ((evalEach [b] X.env).map fun v => do let x ← v; standAt pos; pure x) = ([(eval a X.env, do let x ← eval b X.env; standAt pos; pure x)] : List (Sem Value × Sem Value)).map fun p => (some p.1, p.2) := rfl
  rw [arm_eval_Dict, hsh, dictDisplay_pairs _ (by simp) (by simp)]
  refine wpAny_bind (wpAny_standAt (wpAny_bind ?_))
  unfold subDict
  refine wpAny_bind (wpAny_alloc (wpAny_bind (wpAny_holding ?_)))
  rw [if_pos (by simp)]
  have I0 : Inv X pins σ (upd H s.heap.objs.size (dO s.heap.objs.size [] 0)) { s with heap := s.heap.push { cls := .type "dict", data := .dict #[] } } := I.laid (a := s.heap.objs.size) (o := dO s.heap.objs.size [] 0) (t' := s.toks) (fun _ _ q => Heap.get?_push_of_some _ q) (Nat.le_refl _) (dd_new I 0)
  obtain ⟨g1, g2⟩ := hS.alloc (u := .dct []) hp ⟨Pl.more_mem, [], 0, upd_same, kvs_nil, .nil⟩
  have A1 : LE X.F W fa σ (upd H s.heap.objs.size (dO s.heap.objs.size [] 0)) fun x H1 => ∃ ρ1 S1 kv, Ext (ρ.more s.heap.objs.size) (upd H s.heap.objs.size (dO s.heap.objs.size [] 0)) ρ1 H1 ∧ StR X.F ρ1 S1 H1 ∧ Vr X.F H1 ρ1 x kv ∧ Pst X.F (WE W σ) (Vr X.F) ρ1 H1 _ Q := ⟨Γ, _, _, g1, hE.ext g2, Pst.bind (Pst.mono g2 hp0) fun kv S1 ρ1 H1 x _ e s v hp => ⟨ρ1, S1, kv, e, s, v, hp⟩⟩
  refine wpAny_bind (evalPairs_cons (thn (ha.run pins _ σ _ _ I0 A1) fun u s1 ⟨x, H1, I1, rx, ρ1, S1, kv, e1, hS1, q1, hp1⟩ => ?_))
  have A2 : LE X.F W fb σ H1 fun y H2 => ∃ ρ2 S2 vv, Ext ρ1 H1 ρ2 H2 ∧ StR X.F ρ2 S2 H2 ∧ Vr X.F H2 ρ2 y vv ∧ Pst X.F (WE W σ) (Vr X.F) ρ2 H2 _ Q := ⟨Γ, _, _, hS1, (hE.ext g2).ext e1, Pst.bind hp1 fun vv S2 ρ2 H2 y _ e s v hp => ⟨ρ2, S2, vv, e, s, v, hp⟩⟩
  refine wpAny_bind (thn (hb.run pins s1 σ H1 _ I1 A2) fun w s2 ⟨y, H2, I2, ry, ρ2, S2, vv, e2, hS2, q2, hp2⟩ => wpAny_bind (wpAny_standAt (wpAny_pure (evalPairs_nil (wpAny_holding ?_)))))
  replace q1 := q1.ext e2
  obtain ⟨v, S', hf, hc⟩ := hp2.leaf (by
    split
    · split
      · split
        · split <;> trivial
        · trivial
      · trivial
    · trivial)
  obtain ⟨kd, vd, rfl, rfl, ed, hk, rfl, rfl⟩ := dct1_ok hf
  have hat : ρ2.ad[S.length]? = some s.heap.objs.size := e2.ad (e1.ad (by rw [← hS.len]; exact Pl.more_at))
  obtain ⟨hm, D⟩ := hS2.dctAt hat ed
  rw [List.forIn_cons]
  refine wpAny_bind (wpAny_bind ?_)
  show wpAny _ _ (do dictSet s.heap.objs.size u w; pure (ForInStep.yield PUnit.unit)) _ _ _
  refine wpAny_bind (dd_dictSet hu I2 D (by unfold kindB; rw [hk]; rfl) (show 0 < sizeLine by decide) q1 rx ry q2 fun es' ep' s' hr I' => wpAny_pure ?_)
  show wpAny _ _ (forIn _ _ _) _ _ _
  rw [List.forIn_nil]
  have cv : Cov ρ2.m H2 ρ2.m (upd H2 s.heap.objs.size (dO s.heap.objs.size es' ep')) := ⟨fun b u hb hn => by rw [upd_ne (fun q => hn (by rw [q]; exact hm))]; exact hb, fun _ _ _ n => n⟩
  have hkv : dPut [] kd vd = [(kd, vd)] := rfl
  rw [hkv] at hr
  have ok : KvsOk [(kd, vd)] := by
    have := put_ok (vd := vd) D.1 (kd := kd) (by unfold kindB; rw [hk]; rfl)
    rwa [hkv] at this
  obtain ⟨g3, g4⟩ := hS2.put (o := dO s.heap.objs.size es' ep') (p := .dct [(kd, vd)]) hat hm fun _ _ _ => ⟨hm, es', ep', upd_same, ok, RpD.cov cv _ _ hr⟩
  exact wpAny_pure (wpAny_pure (wpAny_pure (wpAny_pure ⟨.ref s.heap.objs.size, _, I', rfl, hc _ _ _ g4 g3 ⟨s.heap.objs.size, g4.ad hat, rfl⟩⟩)))⟩
theorem ch_le {g1 g2 : G2} (n1 : NX2 g1) (n2 : NX2 g2) {K : Fx} {σ : L2.St} {H : Hp} {Q : VK} (h : LE K W (sChain g1 g2 fa fb fc) σ H Q) : tChain (rD K g1) (rD K g2) (LE K W fa) (LE K W fb) (LE K W fc) σ H Q := by
  obtain ⟨Γ, S, ρ, hS, hE, hp⟩ := h
  refine ⟨Γ, S, ρ, hS, hE, Pst.bind hp fun va S1 ρ1 H1 x _ x1 hS1 q1 hp => ?_⟩
  refine ⟨Γ, S1, ρ1, hS1, hE.ext x1, Pst.bind hp fun vb S2 ρ2 H2 y _ x2 hS2 q2 hp => ?_⟩
  have hp := hp
  cases eg : g1 va vb S2 with
  | bad => rw [eg] at hp; exact hp.elim
  | exc c fs S' => have := n1 va vb S2; rw [eg] at this; exact this.elim
  | ok vz S3 =>
    rw [eg] at hp
    refine ⟨ρ2, S2, va, vb, vz, S3, hS2, q1.ext x2, q2, eg, fun ρ3 H3 z x3 hS3 q3 => ?_⟩
    replace hp := Pst.mono x3 hp
    replace hp : Pst K (WE W σ) (Vr K) ρ3 H3 (match boolOf vz with
      | some true => (fc Γ S3).bind fun u S4 => g2 vb u S4
      | some false => .ok (.d (.bool false)) S3
      | none => .bad) Q := hp
    split at hp
    · rename_i e
      refine ⟨true, boolOf_rp q3 e, ?_⟩
      rw [if_pos rfl]
      refine ⟨Γ, S3, ρ3, hS3, ((hE.ext x1).ext x2).ext x3, Pst.bind hp fun vc S4 ρ4 H4 u _ x4 hS4 q4 hp => ?_⟩
      obtain ⟨v, S', hf, hc⟩ := hp.leaf (n2 vb vc S4)
      exact ⟨ρ4, S4, vb, vc, v, S', hS4, (q2.ext x3).ext x4, q4, hf, hc⟩
    · rename_i e
      refine ⟨false, boolOf_rp q3 e, ?_⟩
      rw [if_neg Bool.false_ne_true]
      exact hp ρ3 H3 _ (Ext.refl hS3) hS3 (show Rp _ _ _ _ _ from .bl false)
    · exact hp.elim
theorem le_chain {op op' : CmpOp} {g1 g2 : G2} (n1 : NX2 g1) (n2 : NX2 g2) (ho : OpR X (compareOp op) (rD X.F g1)) (ho' : OpR X (compareOp op') (rD X.F g2)) (ha : PE X a (LE X.F W fa)) (hb : PE X b (LE X.F W fb)) (hcc : PE X c (LE X.F W fc)) (hm : behindInMarks op' c = false) : PE X (.Compare a [op, op'] [b, c] pos) (LE X.F W (sChain g1 g2 fa fb fc)) :=
  (pe_chain ho ho' ha hb hcc hm).weak fun σ H Q h => ch_le n1 n2 h
theorem lt_chain {op op' : CmpOp} {g1 g2 : G2} (n1 : NX2 g1) (n2 : NX2 g2) (ho : OpR X (compareOp op) (rD X.F g1)) (ho' : OpR X (compareOp op') (rD X.F g2)) (ha : PE X a (LE X.F W fa)) (hb : PE X b (LE X.F W fb)) (hcc : PE X c (LE X.F W fc)) (hm : behindInMarks op' c = false) : PT X (.Compare a [op, op'] [b, c] pos) (LT X.F W (sTst (sChain g1 g2 fa fb fc))) :=
  (pt_chain ho ho' ha hb hcc hm).weak fun σ H Q h => ch_le n1 n2 (tst_of h)
theorem rgV_rp {K : Fx} {H : Hp} {m : List Addr} {n : Int} : RpL K H m (rgV 0 n) (rngIts 0 n.toNat) := by
  unfold rgV rngIts
  rw [Int.sub_zero]
  exact RpL.map (fun i => Rp.int _) _
theorem le_lrg {p p2 q : Pos} (hc : X.calm = true) (hg : Gl X "list") (hm : X.mg "list" = none) (hg2 : Gl X "range") (hm2 : X.mg "range" = none) (ha : PE X a (LE X.F W fa)) (na : starEach [a] X.env = (false, eval a X.env) :: starEach [] X.env) : PE X (.Call (.Name "list" p) [.Call (.Name "range" p2) [a] [] q] [] pos) (LE X.F W (sLrg fa)) :=
  (pe_listRg hc hg hm (prg_1 hg2 hm2 ha na) rfl).weak fun σ H Q ⟨Γ, S, ρ, hS, hE, hp⟩ => by
    refine ⟨Γ, S, ρ, hS, hE, Pst.bind hp fun va S1 ρ1 H1 x _ x1 hS1 q1 hp => ?_⟩
    split at hp
    · rename_i j e
      split at hp
      · rename_i hz
        refine ⟨j, intOf_rp q1 e, ⟨by omega, by omega, hz.1, by omega, by omega⟩, fun t ht => ?_⟩
        exact hp ρ1 _ _ (hS1.fresh ht).2 (hS1.fresh ht).1 (lstNew hS1 ht rgV_rp)
      · exact hp.elim
    · exact hp.elim
theorem ls_par3 {E : XK} {i j l : Nat} (hp : ∀ ta, PA X [a, b, c] ta → PS X st (tPar3 i j l ta)) (ha : PE X a (LE X.F (WI E) fa)) (hb : PE X b (LE X.F (WI E) fb)) (hcc : PE X c (LE X.F (WI E) fc)) (h1 : starEach [a, b, c] X.env = (false, eval a X.env) :: starEach [b, c] X.env) (h2 : starEach [b, c] X.env = (false, eval b X.env) :: starEach [c] X.env) (h3 : starEach [c] X.env = (false, eval c X.env) :: starEach [] X.env) : PS X st (LS X.F E (sPar3 i j l fa fb fc)) :=
  (hp _ (pa_cons ha (pa_cons hb (pa_cons hcc pa_nil h3) h2) h1)).weak fun D σ H ⟨Γ, S, ρ, hS, hE, hp⟩ => by
    refine ⟨Γ, S, ρ, hS, hE, PstS.bind hp fun v S1 ρ1 H1 z _ x1 hS1 q1 hp => ?_⟩
    refine ⟨Γ, S1, ρ1, hS1, hE.ext x1, PstS.bind hp fun w S2 ρ2 H2 y _ x2 hS2 q2 hp => ?_⟩
    refine ⟨Γ, S2, ρ2, hS2, (hE.ext x1).ext x2, PstS.bind hp fun u S3 ρ3 H3 x _ x3 hS3 q3 hp => ?_⟩
    exact ⟨z, y, x, rfl, hp ρ3 H3 _ (Ext.refl hS3) hS3 ((((((hE.ext x1).ext x2).ext x3).set ((q1.ext x2).ext x3)).set (q2.ext x3)).set q3)⟩
end
/-! ### what never raises -/
theorem nx_addN : NX2 gAddN := by
  intro a b S
  unfold gAddN
  repeat' split
  all_goals trivial
theorem nx_sort : NX1 gSort := by
  intro a S
  unfold gSort
  repeat' split
  all_goals trivial
theorem nx_sum : NX1 gSum := by
  intro a S
  unfold gSum
  repeat' split
  all_goals trivial
theorem nx_max1 : NX1 gMax1 := by
  intro a S
  unfold gMax1
  repeat' split
  all_goals trivial
theorem nx_min1 : NX1 gMin1 := by
  intro a S
  unfold gMin1
  repeat' split
  all_goals trivial
theorem nx_all : NX1 gAll := by
  intro a S
  unfold gAll
  repeat' split
  all_goals trivial
theorem nx_any : NX1 gAny := by
  intro a S
  unfold gAny
  repeat' split
  all_goals trivial
end L2.Pv

set_option Elab.async false
set_option linter.all false
set_option maxRecDepth 100000
namespace L2.Pv
open PySem PySem.Spec PyProof.Rows L2

/-! ### the written text to its meaning -/
inductive Bi where
  | len | abs | int | max | min | str | ord | list | tuple | all | any | range | enumerate | zip | reversed | isinstance | bool | sorted | sum | dict | vale
def biName : Bi → Str
  | .len => "len" | .abs => "abs" | .int => "int" | .max => "max" | .min => "min" | .str => "str" | .ord => "ord" | .list => "list" | .tuple => "tuple" | .all => "all" | .any => "any"
  | .range => "range" | .enumerate => "enumerate" | .zip => "zip" | .reversed => "reversed" | .isinstance => "isinstance" | .bool => "bool" | .sorted => "sorted" | .sum => "sum" | .dict => "dict" | .vale => "ValueError"
def posKey (p : Pos) : Nat := p.line * 1000 + p.col
def okName (x : Str) : Bool := !(x == ("__debug__" : Str)) && !(x == ("__classdict__" : Str)) && !(x == ("__name__" : Str))
def idxOf (N : List Str) (x : Str) : Option Nat := N.findIdx? (· == x)
def visB (sc : Scope) (x : Str) : Bool := match sc.names.lookup x with
  | some .local => true
  | some .cell => true
  | some .free => true
  | _ => false
def locB (blk : Bool) (sc : Scope) (x : Str) : Bool := match sc.names.lookup x with
  | some .local => true
  | some .cell => !blk
  | _ => false
def glB (sc : Scope) (x : Str) : Bool := match sc.names.lookup x with
  | some .globalImplicit => true
  | _ => false
def notStar : Expr → Bool
  | .Starred _ _ => false
  | _ => true
def notSlice : Expr → Bool
  | .Slice _ _ _ _ => false
  | _ => true
def notSet : Expr → Bool
  | .Set _ _ _ => false
  | _ => true
def notComp : Expr → Bool
  | .ListComp _ _ _ _ => false
  | .SetComp _ _ _ _ => false
  | .DictComp _ _ _ _ _ => false
  | _ => true
def notTuple : Expr → Bool
  | .Tuple _ _ _ => false
  | _ => true
def okBase : Expr → Bool
  | .Call _ [] [] _ => false
  | .Name _ _ => true
  | .Constant _ _ _ => true
  | .Subscript _ _ _ => true
  | .Call _ (_ :: _) _ _ => true
  | .BinOp _ _ _ _ => true
  | .List _ _ => true
  | _ => false
def plainTest : Expr → Bool
  | .Name _ _ => true
  | .Call _ _ _ _ => true
  | .Subscript _ _ _ => true
  | .BinOp _ _ _ _ => true
  | .List _ _ => true
  | .Tuple _ _ _ => true
  | .ListComp _ _ _ _ => true
  | .Constant _ _ _ => true
  | _ => false
section
variable {e a b : Expr} {es : List Expr} {env : PySem.Env}
theorem star_cons (h : notStar e = true) : starEach (e :: es) env = (false, eval e env) :: starEach es env := by cases e <;> first | rfl | cases h
theorem plainIx_of (h : notSlice e = true) : PlainIx e := by cases e <;> first | (intro _ _; rfl) | cases h
theorem noMark (h : notSet e = true) (op : CmpOp) : behindInMarks op e = false := by cases e <;> first | rfl | cases h
theorem noFold (h : notSet e = true) (env : PySem.Env) : ∀ x, foldedSetIterable e env x = pure x := by cases e <;> first | (intro _; rfl) | cases h
theorem swaps_none (h : notComp e = true) (t : Option Expr) (l : Nat) : swapsWith e t l env = pure false := by cases e <;> first | rfl | cases h
theorem swaps_tup (t : Expr) (l : Nat) (h : ∀ x p, t ≠ .Name x p) : swapsWith e (some t) l env = pure false := by
  cases e <;> first
    | rfl
    | (cases t <;> first
        | rfl
        | exact absurd rfl (h _ _))
theorem stores_none (tg : Expr) (h : notTuple e = true) : swappedStores [tg] e env = pure none := by cases tg <;> cases e <;> first | rfl | cases h
theorem stores_none' (tg : Expr) (h : notTuple tg = true) (h2 : ∀ ts p, tg ≠ .List ts p) : swappedStores [tg] e env = pure none := by
  cases tg <;> cases e <;> first | rfl | exact absurd rfl (h2 _ _) | cases h
theorem base_of (name : Str) (h : okBase e = true) : attributeBase e name env (eval e env) = eval e env := by
  cases e with
  | Call f args kws p =>
    cases args with
    | nil => cases kws <;> cases h
    | cons a as => cases f <;> rfl
  | _ => first | rfl | cases h
theorem plain_of (h : plainTest e = true) : ∀ whole, isTrue e env whole = (do let v ← whole; standAt e.pos; holding [v] (truthy v)) := by
  cases e <;> first | (intro _; rfl) | cases h
theorem back_any (pos : Pos) : ∀ {es : List Expr}, es.all notStar = true → (backTo pos (starEach es env)).any (·.1) = false
  | [], _ => rfl
  | e :: es, h => by
    have h' : notStar e = true ∧ es.all notStar = true := by simpa using h
    rw [star_cons h'.1]
    show (false || (backTo pos (starEach es env)).any (·.1)) = false
    rw [back_any pos h'.2]
    rfl
theorem m1_of {X : Cx} {o : Expr} {name : Str} {apos cpos : Pos} (h1 : okBase o = true) (h2 : notStar e = true) (h3 : (apos.endLine == cpos.line) = true) : M1 X o e name apos cpos where
  base := base_of name h1
  few := by
    rw [star_cons h2]
    rfl
  line := h3
  st := star_cons h2
  plain := rfl
theorem idxOf_ok {N : List Str} {x : Str} {i : Nat} (h : idxOf N x = some i) : N[i]? = some x := by
  unfold idxOf at h
  obtain ⟨h1, h2, _⟩ := List.findIdx?_eq_some_iff_getElem.mp h
  rw [List.getElem?_eq_getElem h1]
  simpa using h2
end

/-- what super().__init__ is given -/
inductive Msg where
  | txt (m : Str)
  | cat (m : Str) (i : Nat)
/-- an exception's class: what it is of, its fields, its message -/
structure XC where
  ups : List Str
  fs : List Str
  ms : Option Msg
theorem ok_of {x : Str} (h : okName x = true) : (x == ("__debug__" : Str)) = false ∧ (x == ("__classdict__" : Str)) = false ∧ x ≠ "__name__" := by
  unfold okName at h
  simp only [Bool.and_eq_true, Bool.not_eq_true'] at h
  exact ⟨h.1.1, h.1.2, fun z => by rw [z] at h; exact absurd h.2 (by decide +kernel)⟩
end L2.Pv

set_option Elab.async false
set_option linter.all false
set_option maxRecDepth 100000
/-! Pv: exceptions with an own __init__ that says super().__init__(text) and lays its fields -/
namespace L2.Pv
open PySem PySem.Spec PyProof.Rows L2
def msgOf (ps : List Str) : Expr → Option Msg
  | .Constant (.str m) _ _ => some (.txt m)
  | .BinOp (.Constant (.str m) _ _) .Add (.Name x _) _ => (idxOf ps x).map (.cat m)
  | _ => none
def asgB : List Str → List Stmt → Bool
  | [], [] => true
  | f :: fs, .Assign [.Attribute (.Name x _) g _] (.Name y _) _ :: sts => (x == ("self" : Str)) && (g == f) && (y == f) && asgB fs sts
  | _, _ => false
/-- def __init__(self, a, b): super().__init__(msg); self.a = a; self.b = b -/
def initOf (ps : List Str) : List Stmt → Option Msg
  | .Expr (.Call (.Attribute (.Call (.Name s _) [] [] _) i p2) [e] [] p3) _ :: rest => if ((s == ("super" : Str)) = true ∧ (i == ("__init__" : Str)) = true) ∧ (p2.endLine == p3.line) = true ∧ asgB ps rest = true then msgOf ps e else none
  | _ => none
def Msg.ok (ms : Msg) (ys : List V) : Prop := match ms with
  | .txt _ => True
  | .cat m i => ∃ z : Str, ys[i]? = some (.str z) ∧ m.length + z.length ≤ sizeLine
/-- what the class says -/
structure ExcK (P : Program) (K : PySem.W.Frag) (C fI cc cda : Addr) (fd : FuncData) (qual : Str) (params : Arguments) (body : List Stmt) (scope : Scope) (fs : List Str) : Prop where
  T : OexC K C
  cls : (PySem.W.clsIn K C).isSome = true
  sub : PySem.W.mroIn K C (.ref C) = some true
  subV : PySem.W.subIn K (.ref C) (.type "ValueError") = some true
  init : PySem.W.findIn K (.ref C) "__init__" = some (some (.ref fI))
  tI : PySem.W.typeIn K (.ref fI) = some (.type "function")
  lk : ∃ oc od kV doc pm an ct osl, fd = PySem.W.ksFn "__init__" qual params body scope .none kV doc pm an (.ref cda) ct cc ∧ K.lookup fI = some ⟨oc, od, .func fd, osl⟩
  code : PySem.W.codeIn K (.ref cda) qual = true
  file : ∃ ccl cdd vs ccs file tf, K.lookup cda = some ⟨ccl, cdd, .fields vs, ccs⟩ ∧ vs[2]? = some (.str file tf) ∧ ((P.main.file : Str) == file) = true
  cell : ∃ cl cld csl, K.lookup cc = some ⟨cl, cld, .cell (some (.ref C)), csl⟩
  sup : PySem.W.ks_superIn K C C "__init__" = some (some (.builtin "ValueError.__init__"))
  opq : PySem.W.nsIn K PySem.cStatics "thirdparty.any" = some none
  nof : ∀ f ∈ fs, PySem.W.findIn K (.ref C) f = some none
structure ExcS (P : Program) (params : Arguments) (body : List Stmt) (scope : Scope) (fs : List Str) (ms : Msg) : Prop where
  sc : NdefX.NScope (("self" : Str) :: (fs ++ [("__class__" : Str)])) (("self" : Str) :: fs) [("__class__" : Str)] scope
  sup : scope.names.lookup ("super" : Str) = some .globalImplicit
  par : ∃ ar, (params.posonlyargs ++ params.args).head? = some ar ∧ ar.arg = "self"
  top : (P.main.scope.names.lookup ("super" : Str)).isSome = false
  body : initOf fs body = some ms
  ne : fs ≠ []
  few : fs.length ≤ 800
  ok : ∀ f ∈ fs, okName f = true
/-- what __init__ promises -/
def spI (K : PySem.W.Frag) (C : Addr) (fs : List Str) (ms : Msg) : Sp := fun vs H Q _ => ∃ a ys, vs = V.ref a :: ys ∧ ys.length = fs.length ∧ H a = some (exo a C none) ∧ ms.ok ys ∧
  ∀ d, H d = none → d ≠ a → Q .non (upd (upd H d (exd d (fs.zip ys).reverse)) a (exo a C (some d)))

section
variable {X : Cx} {a C d : Addr} {fs : List Str} {ys : List V}
def ValsAt (N : List Str) (σ : L2.St) (fs : List Str) (ys : List V) : Prop := Paired (fun (f : Str) (y : V) => ∃ j : Nat, N[j]? = some f ∧ σ[j]? = some (some y)) fs ys
def tB (N : List Str) (a C : Addr) (fs : List Str) (ys : List V) : TS := fun D σ H => (∃ i : Nat, N[i]? = some ("self" : Str) ∧ σ[i]? = some (some (V.ref a))) ∧ ValsAt N σ fs ys ∧
  ∃ d, d ≠ a ∧ ∃ done, done.length + fs.length ≤ 800 ∧ H a = some (exo a C (some d)) ∧ H d = some (exd d done) ∧ D.nx σ (upd H d (exd d ((fs.zip ys).reverse ++ done)))
theorem upd_upd {H : Hp} {a : Addr} {u v : HO} : upd (upd H a u) a v = upd H a v := by
  funext b
  by_cases h : b = a
  · subst h; rw [upd_same, upd_same]
  · rw [upd_ne h, upd_ne h, upd_ne h]
theorem upd_self {H : Hp} {a : Addr} {u : HO} (h : H a = some u) : upd H a u = H := by
  funext b
  by_cases e : b = a
  · subst e; rw [upd_same, h]
  · rw [upd_ne e]
theorem upd_comm {H : Hp} {a b : Addr} {u v : HO} (n : a ≠ b) : upd (upd H a u) b v = upd (upd H b v) a u := by
  funext c
  by_cases h1 : c = a
  · subst h1; rw [upd_ne n, upd_same, upd_same]
  · by_cases h2 : c = b
    · subst h2; rw [upd_same, upd_ne h1, upd_same]
    · rw [upd_ne h2, upd_ne h1, upd_ne h1, upd_ne h2]
theorem asg_cons {f : Str} {st : Stmt} {sts : List Stmt} (h : asgB (f :: fs) (st :: sts) = true) : ∃ p p' p2 pos, st = .Assign [.Attribute (.Name "self" p) f p'] (.Name f p2) pos ∧ asgB fs sts = true := by
  unfold asgB at h
  split at h
  · rename_i h1 h2
    cases h1
  · rename_i f' fs' x p g p' y p2 pos sts' h1 h2
    cases h1
    cases h2
    simp only [Bool.and_eq_true, beq_iff_eq] at h
    obtain ⟨⟨⟨rfl, rfl⟩, rfl⟩, h4⟩ := h
    exact ⟨_, _, _, _, rfl, h4⟩
  · cases h
theorem asgs_ok (T : OexC X.K C) (hv : ∀ f : Str, f = ("self" : Str) ∨ f ∈ fs → Vis X.env.scope f ∧ okName f = true) : ∀ (gs : List Str) (sts : List Stmt) (ys : List V), (∀ f ∈ gs, f ∈ fs ∧ PySem.W.findIn X.K (.ref C) f = some none) → X.N.Nodup → asgB gs sts = true → PSs X sts (tB X.N a C gs ys)
  | [], [], ys, _, _, _ => pss_nil.weak fun D σ H ⟨_, hva, d, _, done, _, h1, h2, hq⟩ => by
    cases hva
    have e : upd H d (exd d (([].zip ([] : List V)).reverse ++ done)) = H := upd_self h2
    rw [e] at hq
    exact hq
  | [], st :: sts, ys, _, _, h => by cases h
  | f :: gs, [], ys, _, _, h => by cases h
  | f :: gs, st :: sts, ys, hf, nd, h => by
    obtain ⟨p, p', p2, pos, rfl, h2⟩ := asg_cons h
    obtain ⟨v1, o1⟩ := hv f (.inr (hf f List.mem_cons_self).1)
    obtain ⟨v2, o2⟩ := hv "self" (.inl rfl)
    refine ⟨fun pins s σ H D I q => ?_⟩
    obtain ⟨⟨i, hi, hs⟩, hva, d, nda, done, hl, e1, e2, hq⟩ := q
    cases hva with
    | @cons _ y _ ys' hy hva' =>
      obtain ⟨j, hj, hsj⟩ := hy
      have R := asgs_ok T hv gs sts ys' (fun g hg => hf g (List.mem_cons_of_mem _ hg)) nd h2
      refine (pss_cons (ps_ost (pe_var hi v2 (ok_of o2).1 (ok_of o2).2.1) (pe_var hj v1 (ok_of o1).1 (ok_of o1).2.1) rfl) R).run pins s σ H D I ?_
      refine ⟨_, hsj, _, hs, a, C, rfl, T, (hf f List.mem_cons_self).2, .inr ⟨d, done, e1, e2, ?_, ⟨i, hi, hs⟩, hva', d, nda, (f, y) :: done, ?_, ?_, upd_same, ?_⟩⟩
      · simp only [List.length_cons] at hl; omega
      · simp only [List.length_cons] at hl ⊢; omega
      · rw [upd_ne (Ne.symm nda)]
        exact e1
      · rw [upd_upd]
        have : ((f :: gs).zip (y :: ys')).reverse ++ done = (gs.zip ys').reverse ++ (f, y) :: done := by simp
        rw [← this]
        exact hq
/-- super().__init__(e): nothing of it is told -/
theorem super_ok {P : Program} {K : PySem.W.Frag} {fI cc cda : Addr} {fd : FuncData} {qual : Str} {params : Arguments} {body : List Stmt} {scope : Scope} {ms : Msg} {σ : L2.St} {H : Hp} {s : Shared} {L : Addr} {e : Expr} {v : V} {i : Nat} {p0 p1 p2 p3 p4 : Pos} {Q : Flow → Shared → Prop}
    (hP : X.prog = P) (hK : X.K = K) (k : ExcK P K C fI cc cda fd qual params body scope fs) (S : ExcS P params body scope fs ms) (hX : X.env = PySem.W.ksEnv qual scope L fI (.ref cda) cc) (hm : X.mg "super" = none)
    (I : Inv X [] σ H s) (hi : X.N[i]? = some ("self" : Str)) (hs : σ[i]? = some (some (V.ref a))) (ea : H a = some (exo a C none))
    (he : PE X e (fun σ' H' Q' => σ' = σ ∧ H' = H ∧ Q' v H')) (hst : notStar e = true) (hln : (p2.endLine == p3.line) = true) (h : ∀ s', Inv X [] σ H s' → Q .next s') :
    _root_.PySem.wpAt (model X.prog X.w) X.A (.func body X.env) (exec (.Expr (.Call (.Attribute (.Call (.Name "super" p0) [] [] p1) "__init__" p2) [e] [] p3) p4) X.env) Q X.xe s := by
  subst hP hK
  obtain ⟨oc, od, kV, doc, pm, an, ct, osl, efd, hf⟩ := k.lk
  obtain ⟨ccl, cdd, vs, ccs, file, tf, hcode, hvs, hfile⟩ := k.file
  obtain ⟨cl, cld, csl, hcell⟩ := k.cell
  obtain ⟨ar, hpar, har⟩ := S.par
  obtain ⟨cd, hcd⟩ := Option.isSome_iff_exists.mp k.cls
  have hk : X.env.scope.kind = .function := I.ok.kind
  have hks : X.env.kindOf ("super" : Str) = some .globalImplicit := by rw [hX]; exact S.sup
  have hkc : X.env.kindOf ("__class__" : Str) = some .free := by rw [hX]; exact S.sc.frk _ List.mem_cons_self
  have hka : X.env.kindOf ("self" : Str) = some .local := by rw [hX]; exact S.sc.par _ List.mem_cons_self
  have hcl : X.env.cells.lookup ("__class__" : Str) = some cc := by rw [hX]; rfl
  have XK := I.kIn
  obtain ⟨oD, hD1, hD2⟩ : ∃ oD, s.heap.get? C = some oD ∧ oD.data = .cls cd := by
    have hcd := hcd
    unfold PySem.W.clsIn at hcd
    split at hcd
    · rename_i ho
      cases hcd
      exact ⟨_, XK _ _ ho, rfl⟩
    · cases hcd
  obtain ⟨t1, hx⟩ := exo_at I.hok ea
  refine ks_wpAt_Expr_any ?_ I.quiet rfl
  refine ks_wpAt_MethodCall (pl := do return (← importBound (.Call (.Name "super" p0) [] [] p1) X.env).getD true) ?_ (by
    rw [arm_eval_Call]
    have hf2 : methodCallForm ([e].length + ([] : List Keyword).length) (backTo p3 (starEach [e] X.env)) (backToKw p3 (keywordEach [] X.env)) = true := all_few (back_any _ (by rw [List.all_cons, hst]; rfl)) (show 1 < 30 by decide)
    have hpos : methodCallPos true (.Call (.Name "super" p0) [] [] p1) X.env p2 p3 = pure p3 := by unfold methodCallPos; simp [hln]
    unfold methodCall
    rw [hf2, hpos]
    rfl)
  refine ks_wpAt_super_base hks hkc (by decide) (by rw [hX]) (XK _ _ hf) (by rw [efd]) hpar (by rw [hX]) (XK _ _ hcode) rfl hvs hfile S.top ?_
  obtain ⟨mb, hb1, hb2⟩ := I.mod.blt
  refine PySem.W.ks_loadName_global hk hks (Calls.loadGlobal_builtin (by rw [I.ok.glob]; exact I.mod.glob.keeps I.bk) hm (by rw [I.ok.blt]; exact hb1.keeps I.bk) ((hb2 "super" (by decide)).trans (by decide +kernel)) ⟨rfl, ?_⟩)
  refine wpAny_loadName_free hk hkc hcl ⟨_, XK _ _ hcell, rfl⟩ ?_
  obtain ⟨m, hns, hl⟩ := I.loc
  obtain ⟨u, ru, hlk⟩ := hl i _ _ hi hs (.inl hka)
  cases ru
  have hmv : m ("self" : Str) = some (.ref a) := by
    rcases hlk with ⟨_, z⟩ | ⟨z, _⟩
    · exact z
    · rw [hka] at z
      rcases z with z | z <;> cases z
  rw [har]
  refine wpAny_loadName_local hk hka hns hmv ?_
  refine ks_wpAny_isType_cls hD1 hD2 ⟨rfl, ?_⟩
  obtain ⟨hp, g, d, t, os⟩ := s
  refine ks_wpAny_call_super hD1 hD2 hx rfl (fun c z => by cases z) (PySem.W.looks_mroIn XK k.sub) (fun h1 e1 k1 => ?_)
  have I1 := I.kept (t' := t) k1
  have XK1 := I1.kIn
  have hx1 := k1 _ _ hx
  have hcd' : PySem.W.Looks (model X.prog X.w) h1 (mroOf (.ref C)) cd.mro := (PySem.W.looks_clsIn XK1 hcd).andThen .now
  have hsup := k.sup
  unfold PySem.W.ks_superIn at hsup
  rw [hcd] at hsup
  have IA : PySem.W.InstAt h1 a ({ cls := .ref C, dict := none, data := .fields #[.ref t1, .none, .none, .none, .bool false, .none] } : Obj) C none := ⟨hx1, rfl, rfl, trivial⟩
  refine PySem.W.kxs_getMethod PySem.W.kxs_ValueError e1 (PySem.W.looks_opaque XK1 k.opq) hcd' rfl XK1 hsup (IA.type.andThen (PySem.W.looks_subIn XK1 k.subV)) (PySem.W.ks_ne XK1 IA hcd) (by decide) ?_
  have hmw : (h1.push (PySem.W.kxs_mw "ValueError.__init__" a)).get? h1.objs.size = some (PySem.W.kxs_mw "ValueError.__init__" a) := Heap.get?_push_at rfl rfl
  have I2 : Inv X [(h1.objs.size, PySem.W.kxs_mw "ValueError.__init__" a)] σ H ⟨h1.push (PySem.W.kxs_mw "ValueError.__init__" a), g, d, t + 1, os⟩ :=
    (I1.kept (t' := t + 1) fun b o z => Heap.get?_push_of_some _ z).pins_of fun p hp => by
      rw [List.mem_singleton.mp hp]
      exact ⟨hmw, I1.hok.fresh (Nat.le_refl _), Nat.ne_of_gt I1.lt, I1.nofs (Nat.le_refl _), fun v z => by cases z⟩
  have ha := pa_cons he pa_nil (star_cons hst)
  refine PySem.W.kxs_callWith (i := "ValueError.__init__") (x := a) (by rw [star_cons hst]; rfl) ?_
  rw [star_cons hst]
  refine Calls.evalArgs_plain ?_
  have hA := ha.run p3 _ _ σ H (fun vs H' => vs = [v] ∧ H' = H) I2 ⟨rfl, rfl, rfl, rfl⟩
  rw [star_cons hst] at hA
  refine thn hA fun us s2 ⟨vs2, H2, I3, r2, ev, eH⟩ => ?_
  subst ev eH
  have hu := (I3.pin _ (List.mem_append_right _ List.mem_cons_self)).1
  refine ⟨hu, ?_⟩
  obtain ⟨nm, q, N, bs, bm, sn, sub, ab, col, dd, k0, k1', k2, k3, k5, hC, hbm⟩ := k.T.cls
  obtain ⟨t2, hx2⟩ := exo_at I3.hok ea
  have hC2 := I3.kIn _ _ hC
  obtain ⟨hp2, g2, d2, tk2, os2⟩ := s2
  have hlen : us.length ≤ sizeLine := by
    rw [← r2.length, sizeLine_eq]
    show 1 ≤ 16777216
    decide
  refine wpAny_call (codeAny_of_tree ?_)
  show wpAny _ X.A.in1 (callAny (.ref h1.objs.size) ⟨us, []⟩) _ _ _
  simp only [callAny]
  refine wpAny_bind (wpAny_load hu ?_)
  simp only [PySem.W.kxs_mw, show (Value.type "method-wrapper" == Value.type "method" || Value.type "method-wrapper" == Value.type "builtin_function_or_method" || Value.type "method-wrapper" == Value.type "method-wrapper") = true by decide, if_true]
  refine PySem.W.KFB.if_so (by decide) ?_
  refine wpAny_bind (PySem.W.check_bound_init F.excBase_ValueError.toExcCallFacts hC2 hx2 rfl ?_)
  refine wpAny_bind (wpAny_pure (wpAny_pure ?_))
  refine ⟨plainId_quiet F.excBase_ValueError.init.plain _, codeAny_builtin F.excBase_ValueError.initEntry ?_⟩
  refine PySem.W.exc_init_tree (cls := .ref C) (t0 := t2) (dv := none) (c2 := .none) (c3 := .none) (b4 := .bool false) hx2 hlen fun h' kk hx' _ => ?_
  have J := I3.write (t' := tk2) (x := a) (e := a) (o := exo a C none) (by rw [ea]; exact True.intro) (.inl rfl) kk ⟨_, hx'⟩ (exo_ok hx')
  rw [upd_self ea] at J
  exact h _ (J.pins_of fun p hp => by cases hp)
end
theorem valsAt_of {N : List Str} {fs : List Str} {ys : List V} {r : List (Option V)} {a : Addr} (hN : N = ("self" : Str) :: (fs ++ [("__class__" : Str)])) (hl : ys.length = fs.length) : ValsAt N (some (.ref a) :: (ys.map some ++ r)) fs ys := by
  subst hN
  have gen : ∀ (fs : List Str) (ys : List V) (pre : List Str) (qre : List V) (post : List Str) (r : List (Option V)), pre.length = qre.length → ys.length = fs.length → ValsAt (pre ++ (fs ++ post)) (qre.map some ++ (ys.map some ++ r)) fs ys := by
    intro fs
    induction fs with
    | nil =>
      intro ys pre qre post r _ h
      cases ys with
      | nil => exact .nil
      | cons y ys => cases h
    | cons f fs ih =>
      intro ys pre qre post r hp h
      cases ys with
      | nil => cases h
      | cons y ys =>
        refine .cons ⟨pre.length, ?_, ?_⟩ ?_
        · rw [List.getElem?_append_right (Nat.le_refl _), Nat.sub_self]
          rfl
        · rw [List.getElem?_append_right (by rw [List.length_map]; omega), List.length_map, hp, Nat.sub_self]
          rfl
        · have q := ih ys (pre ++ [f]) (qre ++ [y]) post r (by simp [hp]) (by simpa using h)
          simpa [List.append_assoc, ValsAt] using q
  exact gen fs ys [("self" : Str)] [V.ref a] [("__class__" : Str)] r rfl hl
theorem init_inv {ps : List Str} {body : List Stmt} {ms : Msg} (h : initOf ps body = some ms) : ∃ p0 p1 p2 p3 p4 e rest, body = .Expr (.Call (.Attribute (.Call (.Name "super" p0) [] [] p1) "__init__" p2) [e] [] p3) p4 :: rest ∧ (p2.endLine == p3.line) = true ∧ asgB ps rest = true ∧ msgOf ps e = some ms := by
  unfold initOf at h
  split at h
  · split at h
    · rename_i hh
      obtain ⟨⟨h1, h2⟩, h3, h4⟩ := hh
      simp only [beq_iff_eq] at h1 h2
      subst h1 h2
      exact ⟨_, _, _, _, _, _, _, rfl, h3, h4, h⟩
    · cases h
  · cases h
theorem msg_star {ps : List Str} {e : Expr} {ms : Msg} (h : msgOf ps e = some ms) : notStar e = true := by
  unfold msgOf at h
  split at h
  · rfl
  · rfl
  · cases h
/-- the message -/
theorem msg_ok {X : Cx} {fs : List Str} {ms : Msg} {ys : List V} {e : Expr} {a : Addr} {H : Hp} {r : List (Option V)} (hN : X.N = ("self" : Str) :: (fs ++ [("__class__" : Str)])) (hl : ys.length = fs.length) (hv : ∀ f ∈ fs, Vis X.env.scope f ∧ okName f = true) (h : msgOf fs e = some ms) (hm : ms.ok ys) :
    ∃ v, PE X e (fun σ' H' Q' => σ' = some (.ref a) :: (ys.map some ++ r) ∧ H' = H ∧ Q' v H') := by
  unfold msgOf at h
  split at h
  · rename_i m k1 p1
    exact ⟨.str m, pe_str.weak fun σ' H' Q' q => by
      obtain ⟨_, e1, q⟩ := q
      subst e1
      exact q⟩
  · rename_i m k1 p1 x p2 p3
    obtain ⟨i, hi, rfl⟩ := Option.map_eq_some_iff.mp h
    obtain ⟨z, hz, hlz⟩ := hm
    have hx := idxOf_ok hi
    obtain ⟨v1, o1⟩ := hv x (List.mem_of_getElem? hx)
    have hilt := (List.getElem?_eq_some_iff.mp hx).1
    refine ⟨.str (m ++ z), (pe_op op_add_str pe_str (pe_var (i := i + 1) ?_ v1 (ok_of o1).1 (ok_of o1).2.1)).weak fun σ' H' Q' ⟨e0, e1, q⟩ => ?_⟩
    · rw [hN]
      show (fs ++ _)[i]? = _
      rw [List.getElem?_append_left hilt]
      exact hx
    · subst e0 e1
      refine ⟨.str z, ?_, m, z, rfl, rfl, hlz, q⟩
      show (ys.map some ++ r)[i]? = _
      rw [List.getElem?_append_left (by rw [List.length_map]; omega), List.getElem?_map, hz]
      rfl
  · cases h
/-- what an __init__ promises -/
structure IniOk (P : Program) (w : World) (K : PySem.W.Frag) (mg : Str → Option Value) (base : Heap) (CX : CXT) (fI : Addr) (fd : FuncData) (ps : List Str) (sp : Sp) : Prop where
  len : ∀ vs H Q E, sp vs H Q E → vs.length = ps.length
  run : ∀ (A : Around) (outer : List PySem.Env) (s : Shared) (H : Hp) (args : Args) (us : List Value) (vs : List V) (Q : VK) (E : XK), A.handled = none → A.depth < recursionLimit → Env0 P w K mg base A outer s H → BindsTo s fd args (ps.zip us) → Vals vs us → sp vs H Q E →
    codeAny (model P w) A (.call (.ref fI) args) (L2.CR CX outer P w H s Q E) s
/-- __init__ keeps its promise -/
theorem init_fn {P : Program} {w : World} {K : PySem.W.Frag} {mg : Str → Option Value} {base : Heap} {CX : CXT} {C fI cc cda : Addr} {fd : FuncData} {qual : Str} {params : Arguments} {body : List Stmt} {scope : Scope} {fs : List Str} {ms : Msg}
    (kk : ExcK P K C fI cc cda fd qual params body scope fs) (S : ExcS P params body scope fs ms) (hm : mg "super" = none) : IniOk P w K mg base CX fI fd (("self" : Str) :: fs) (spI K C fs ms) := by
  obtain ⟨oc, od, kV, doc, pm, an, ct, osl, efd, hf⟩ := kk.lk
  refine ⟨fun vs H Q E ⟨a, ys, e, hl, _⟩ => by rw [e]; show ys.length + 1 = fs.length + 1; rw [hl], fun A outer s H args us vs Q E hhd hdep e0 hb rv hsp => ?_⟩
  obtain ⟨a, ys, rfl, hl, ea, hmo, hq⟩ := hsp
  have KX : K.In s.heap := e0.mod.kin.keeps fun b o e => (e0.bs b o e).1
  have lim : s.heap.NoLimit := e0.mod.nolimit.keeps fun b o e => (e0.bs b o e).1
  obtain ⟨cl, cld, csl, hcell⟩ := kk.cell
  let NFn : NdefX.NF := ⟨"__init__", qual, params, body, scope, [("__class__", cc)], cda⟩
  have hsc : fd.scope = scope := by rw [efd]
  have hbody : fd.body = .stmts body := by rw [efd]
  have hcell0 : ∀ x ∈ fd.scope.names, x.2 ≠ .cell := by rw [hsc]; exact S.sc.nocell
  have hloc : ∀ x ∈ (("self" : Str) :: fs).zip us, fd.scope.names.lookup x.1 = some .local := fun x hx => by
    rw [hsc]
    exact S.sc.par _ (List.of_mem_zip (a := x.1) (b := x.2) hx).1
  have henv : ∀ L, callEnv fd L fI = NdefX.envF NFn fI L := fun L => by rw [efd]; rfl
  refine ks_codeAny_call_defAt hdep (KX _ _ hf) rfl lim (by rw [efd]; exact PySem.W.codeRec_of KX kk.code) hbody hb hcell0 hloc (fun h₀ hns hk₀ => ?_) (by rw [hsc]; exact S.sc.co) (by rw [hsc]; exact S.sc.gen) (by rw [hsc]; exact S.sc.kind)
  rw [henv]
  have CA : NdefX.CellsAt NFn.cl [("__class__" : Str)] [none] s.heap H := by
    refine ⟨rfl, fun y c hy => ?_, fun x y c hx hy => ?_, fun i y hy => ?_⟩
    · have : c = cc := by
        simp only [NFn, List.lookup] at hy
        split at hy
        · exact (Option.some.inj hy).symm
        · cases hy
      subst this
      exact ⟨(e0.bs _ _ (e0.mod.kin _ _ hcell)).2, _, _, KX _ _ hcell, rfl⟩
    · simp only [NFn, List.lookup] at hx hy
      split at hx
      · rename_i h1
        split at hy
        · rename_i h2
          simp only [beq_iff_eq] at h1 h2
          rw [h1, h2]
        · cases hy
      · cases hx
    · cases i with
      | zero =>
        simp only [List.getElem?_cons_zero, Option.some.injEq] at hy
        subst hy
        exact ⟨cc, rfl, fun v hv => by simp at hv⟩
      | succ i => simp at hy
  have I := NdefX.inv_startN (CX := CX) (E := E) (F := NFn) (f := fI) (N := ("self" : Str) :: (fs ++ [("__class__" : Str)])) (tk := s.toks + ((("self" : Str) :: fs).zip us).length) S.sc hhd e0 (vs := V.ref a :: ys) (show ys.length + 1 = fs.length + 1 by rw [hl]) rv CA hns hk₀
  generalize hX : NdefX.ncx CX P w K mg base (("self" : Str) :: (fs ++ [("__class__" : Str)])) NFn fI A outer s H E = X at I
  have hst : NdefX.startF (("self" : Str) :: (fs ++ [("__class__" : Str)])) (V.ref a :: ys) [none] = some (V.ref a) :: (ys.map some ++ [none]) := by
    have : (("self" : Str) :: (fs ++ [("__class__" : Str)])).length - (V.ref a :: ys).length - 1 = 0 := by simp [hl]
    unfold NdefX.startF
    show _ ++ ([none] ++ List.replicate ((("self" : Str) :: (fs ++ [("__class__" : Str)])).length - (V.ref a :: ys).length - 1) none) = _
    rw [this]
    simp
  rw [hst] at I
  obtain ⟨p0, p1, p2, p3, p4, e, rest, eb, hln, hasg, hmsg⟩ := init_inv S.body
  have hXN : X.N = ("self" : Str) :: (fs ++ [("__class__" : Str)]) := by subst hX; rfl
  have hXe : X.env = NdefX.envF NFn fI s.heap.objs.size := by subst hX; rfl
  have hvis : ∀ f : Str, f = ("self" : Str) ∨ f ∈ fs → Vis X.env.scope f ∧ okName f = true := fun f hf => by
    rw [hXe]
    refine ⟨.inl (S.sc.par f ?_), ?_⟩
    · rcases hf with rfl | hf
      · exact List.mem_cons_self
      · exact List.mem_cons_of_mem _ hf
    · rcases hf with rfl | hf
      · rfl
      · exact S.ok f hf
  obtain ⟨v, hmv⟩ := msg_ok (X := X) (H := H) (a := a) (r := [none]) hXN hl (fun f hf => hvis f (.inr hf)) hmsg hmo
  have nd : X.N.Nodup := by rw [hXN]; exact S.sc.nd
  have hself : X.N[0]? = some ("self" : Str) := by rw [hXN]; rfl
  have hRest : PSs X rest (fun D σ' H' => σ' = some (V.ref a) :: (ys.map some ++ [none]) ∧ H' = H ∧ ∀ d, H d = none → d ≠ a → D.nx σ' (upd (upd H d (exd d (fs.zip ys).reverse)) a (exo a C (some d)))) := by
    have hva := valsAt_of (r := [none]) (a := a) hXN hl
    cases hfs : fs with
    | nil => exact absurd hfs S.ne
    | cons f gs =>
      rw [hfs] at hasg hva hvis
      have hnf := kk.nof
      have hfew := S.few
      rw [hfs] at hnf hfew
      cases rest with
      | nil => cases hasg
      | cons st sts =>
        obtain ⟨q1, q2, q3, q4, rfl, h2⟩ := asg_cons hasg
        cases hva with
        | @cons _ y _ ys' hy hva' =>
          obtain ⟨j, hj, hsj⟩ := hy
          obtain ⟨v1, o1⟩ := hvis f (.inr List.mem_cons_self)
          obtain ⟨v2, o2⟩ := hvis ("self" : Str) (.inl rfl)
          have hKX : X.K = K := by subst hX; rfl
          have T : OexC X.K C := by rw [hKX]; exact kk.T
          refine (pss_cons (ps_ost (pe_var hself v2 (ok_of o2).1 (ok_of o2).2.1) (pe_var hj v1 (ok_of o1).1 (ok_of o1).2.1) rfl) (asgs_ok (fs := f :: gs) (a := a) T hvis gs sts ys' (fun g hg => ⟨List.mem_cons_of_mem _ hg, by rw [hKX]; exact hnf g (List.mem_cons_of_mem _ hg)⟩) nd h2)).weak fun D σ' H' q => ?_
          obtain ⟨rfl, rfl, hq⟩ := q
          refine ⟨y, hsj, _, rfl, a, C, rfl, T, by rw [hKX]; exact hnf f List.mem_cons_self, .inl ⟨ea, fun d hd hda => ?_⟩⟩
          refine ⟨⟨0, hself, rfl⟩, hva', d, hda, [(f, y)], ?_, upd_same, ?_, ?_⟩
          · simp only [List.length_cons, List.length_nil] at hfew ⊢; omega
          · rw [upd_ne hda, upd_same]
          · have q5 := hq d hd hda
            rw [upd_comm (Ne.symm hda), upd_upd]
            have : ((f :: gs).zip (y :: ys')).reverse = (gs.zip ys').reverse ++ [(f, y)] := by simp
            rw [← this]
            exact q5
  have hRun : ∀ s', Inv X [] (some (V.ref a) :: (ys.map some ++ [none])) H s' → wpAny (model X.prog X.w) X.A (execs rest X.env) (SP X [] { nx := fun _ H' => Q .non H', rt := Q }) X.xe s' := fun s' J => hRest.run [] s' _ H _ J ⟨rfl, rfl, hq⟩
  subst eb
  refine ks_wpAt_execs_cons ?_
  have hPr : X.prog = P ∧ X.K = K ∧ X.mg = mg := by subst hX; exact ⟨rfl, rfl, rfl⟩
  have SU := super_ok (X := X) (a := a) (C := C) (fs := fs) (σ := some (V.ref a) :: (ys.map some ++ [none])) (H := H) (v := v) (i := 0) (p0 := p0) (p1 := p1) (p2 := p2) (p3 := p3) (p4 := p4) (Q := fun f s' => match f with
    | .next => _root_.PySem.wpAt (model X.prog X.w) X.A (.func (.Expr (.Call (.Attribute (.Call (.Name "super" p0) [] [] p1) "__init__" p2) [e] [] p3) p4 :: rest) X.env) (execs rest X.env) (fun f s' => L2.CR CX outer P w H s Q E (.ok (.ret (match f with | .ret v => v | _ => .none))) s') X.xe s'
    | f => L2.CR CX outer P w H s Q E (.ok (.ret (match f with | .ret v => v | _ => .none))) s') hPr.1 hPr.2.1 kk S hXe (by rw [hPr.2.2]; exact hm) I hself rfl ea hmv (msg_star hmsg) hln fun s' J => ?_
  · subst hX
    exact SU
  · refine wpAt_of_wpAny (wpAny_mono (hRun s' J) (fun f s2 hs => ?_) fun _ _ z => z)
    subst hX
    cases f with
    | next =>
      obtain ⟨_, H', J2, q⟩ := hs
      exact ⟨.non, H', J2.os, J2.bare, J2.base, J2.hok, rfl, q⟩
    | ret u =>
      obtain ⟨v, _, H', J2, rv2, q⟩ := hs
      exact ⟨v, H', J2.os, J2.bare, J2.base, J2.hok, rv2, q⟩
    | brk =>
      obtain ⟨_, _, _, z⟩ := hs
      exact z.elim
    | cont =>
      obtain ⟨_, _, _, z⟩ := hs
      exact z.elim
/-! ### C(a, ..), raise -/
theorem pmk_init {X : Cx} {x : Str} {e : Expr} {es : List Expr} {ta : TA} {p pos : Pos} {C fI : Addr} {fd : FuncData} {ps : List Str} {sp : Sp} (T : OexC X.K C) (iC : PySem.W.findIn X.K (.ref C) "__init__" = some (some (.ref fI))) (tI : PySem.W.typeIn X.K (.ref fI) = some (.type "function"))
    (F1 : IniOk X.prog X.w X.K X.mg X.base (L2N.CX X.prog X.w) fI fd ps sp) (hh : X.A.handled = none) (hdp : X.A.depth + 1 < recursionLimit) (hb : ∀ s us, us.length = ps.length → BindsTo s fd ⟨us, []⟩ (ps.zip us)) (hg : Gl X x) (hm : X.mg x = some (.ref C)) (ha : PA X (e :: es) ta)
    (hdb : (x == ("__debug__" : Str)) = false) (he : starEach (e :: es) X.env = (false, eval e X.env) :: starEach es X.env) (hpl : (backTo pos (starEach es X.env)).any (·.1) = false) : L2N.PMk X (.Call (.Name x p) (e :: es) [] pos) (tMkO C sp [] ta) := by
  intro pins s σ H Q I h
  obtain ⟨nm, q, N, bs, bm, sn, sub, ab, col, dd, k0, k1, k2, k3, k5, hC, hbm⟩ := T.cls
  refine wpAny_Call_Name_kw (ld_glob I hg hm ?_ hdb)
  refine PySem.W.callWith_K (h₀ := X.base) I.ok.mod.kin T.kC (thn (ha.run pos pins s σ H _ I h) fun us s1 ⟨vs, H1, I1, r1, hz, q1⟩ => ⟨I1.kIn, ?_⟩) he hpl
  show wpAny _ _ (call (.ref C) us) _ _ _
  obtain ⟨hp, g, dr, tk, os⟩ := s1
  -- where the exception will lie
  have hsz : hp.objs.size ≤ hp.objs.size + 1 := Nat.le_succ _
  have hq := q1 (hp.objs.size + 1) (I1.hok.fresh hsz)
  have kk : ∀ b o, hp.get? b = some o → ((hp.push (PySem.W.kdv_tup us)).push (PySem.HandSPX.excO C hp.objs.size)).get? b = some o := fun b o z => Heap.get?_push_of_some _ (Heap.get?_push_of_some _ z)
  have hget : ((hp.push (PySem.W.kdv_tup us)).push (PySem.HandSPX.excO C hp.objs.size)).get? (hp.objs.size + 1) = some (PySem.HandSPX.excO C hp.objs.size) := by heap_get
  have I2 := I1.laid (t' := tk) (a := hp.objs.size + 1) (o := exo (hp.objs.size + 1) C none) (h' := (hp.push (PySem.W.kdv_tup us)).push (PySem.HandSPX.excO C hp.objs.size)) kk hsz (exo_ok hget)
  rw [List.append_nil] at hq
  have r2 : Vals (V.ref (hp.objs.size + 1) :: vs) (Value.ref (hp.objs.size + 1) :: us) := .cons rfl r1
  have hl : (Value.ref (hp.objs.size + 1) :: us).length = ps.length := by rw [← r2.length]; exact F1.len _ _ _ _ hq
  have hus : us.length ≤ sizeLine := by rw [← Paired.length r1, sizeLine_eq]; omega
  refine wpAny_call (PySem.HandSPX.call_own F.excBase_ValueError (fun Y => PySem.HandSPX.refsVE_contains Y bm hbm) (I1.kIn _ _ hC) (PySem.W.looks_findIn I1.kIn iC) (fun self => PySem.W.bind_fn I1.kIn self tI) hus
    (codeAny_mono (F1.run _ X.stack _ _ ⟨Value.ref (hp.objs.size + 1) :: us, []⟩ _ _ _ (fun _ _ _ => False) hh (by rw [make_depth]; exact hdp) (I2.env0.make C us []) (hb _ _ hl) r2 hq) fun r s' hq' => ?_))
  cases r with
  | error er =>
    obtain ⟨_, _, _, _, _, _, _, _, _, _, _, _, z⟩ := hq'
    exact z.elim
  | ok fl =>
    cases fl with
    | ret u =>
      obtain ⟨v, H2, os2, bare2, un2, hok2, rv, ev, d, fs, ea, ed, hd1, q2⟩ := hq'
      subst ev
      obtain ⟨h2, g2, d2, t2, os'⟩ := s'
      obtain ⟨t0, G, J, kG, ge, hoe, na⟩ := mk_end0 (d2 := d2) (t2 := t2) I1 hsz kk un2 hok2 os2 bare2 ea ed hd1
      exact ⟨rv, hp.objs.size + 1, _, _, ⟨G, g2, d2, t2, os'⟩, _, .ref C, some d, rfl, J, kG, ge, hoe, ⟨rfl, rfl, fun vs hv => by cases hv; rfl⟩, rfl, rfl, na, rfl, bare2, raises_own T.exC T.tyC, q2⟩
    | next => exact False.elim hq'
    | brk => exact False.elim hq'
    | cont => exact False.elim hq'
def Msg.okD (ms : Msg) (ds : List PyData) : Bool := match ms with
  | .txt _ => true
  | .cat m i => match ds[i]? with
    | some (.str z) => decide (m.length + z.length ≤ SZ)
    | _ => false
/-- raise C(a, ..) -/
def excR (c : Str) (q : XC) (vs : List Vl) (S : Sto) : R Fl := match datas vs, q.ms with
  | some ds, some ms => if ms.okD ds = true ∧ ds.length = q.fs.length ∧ ds.length ≤ 800 then .exc c (q.fs.zip ds).reverse S else .bad
  | _, _ => .bad
def sRaise (c : Str) (q : XC) (as : List SE) : SS := fun Γ S => (sArgs as Γ S).bind fun vs S1 => excR c q vs S1
end L2.Pv

set_option Elab.async false
set_option linter.all false
set_option maxRecDepth 100000
/-! Pv: raise; what an exception is asked -/
namespace L2.Pv
open PySem PySem.Spec PyProof.Rows L2
/-- is an exception of class c taken by T -/
def isB (c : Str) (q : XC) (T : Str) : Bool := c == T || q.ups.contains T
structure XtC (P : Program) (w : World) (K : PySem.W.Frag) (mg : Str → Option Value) (base : Heap) (xt : List (Str × XC)) (c : Str) (q : XC) (C : Addr) : Prop where
  mc : mg c = some (.ref C)
  xf : XfC K C
  cls : (PySem.W.clsIn K C).isSome = true
  ca : PySem.W.findIn K (.ref C) "__class__" = some (some (.builtin "object.__class__"))
  hm : PySem.W.mroIn K C (.type "object") = some true
  nof : ∀ f ∈ q.fs, PySem.W.findIn K (.ref C) f = some none
  up : ∀ (T : Str) (q' : XC) (D : Addr), xt.lookup T = some q' → mg T = some (.ref D) → PySem.W.kitOne K (.ref C) (.ref D) = some (isB c q T) ∧ PySem.W.exmOne K (.ref C) (.ref D) = some (isB c q T)
  upV : PySem.W.kitOne K (.ref C) (.type "ValueError") = some (isB c q "ValueError")
  ini : ∀ ms, q.ms = some ms → ∃ fI fd, OexC K C ∧ PySem.W.findIn K (.ref C) "__init__" = some (some (.ref fI)) ∧ PySem.W.typeIn K (.ref fI) = some (.type "function") ∧ q.fs ≠ [] ∧ IniOk P w K mg base (L2N.CX P w) fI fd (("self" : Str) :: q.fs) (spI K C q.fs ms) ∧
    ∀ (s : Shared) (us : List Value), us.length = q.fs.length + 1 → BindsTo s fd ⟨us, []⟩ ((("self" : Str) :: q.fs).zip us)
/-- the exceptions' classes -/
structure XtOk (P : Program) (w : World) (K : PySem.W.Frag) (mg : Str → Option Value) (base : Heap) (xt : List (Str × XC)) : Prop where
  hn : xt ≠ [] → PySem.W.specialIn K (.builtin "object.__class__") "__get__" = some (some (.builtin "getset_descriptor.__get__"))
  ht : xt ≠ [] → PySem.W.takesIn K (.builtin "object.__class__") = some true
  all : ∀ c q, xt.lookup c = some q → ∃ C, XtC P w K mg base xt c q C
/-- isinstance(e, T), e an exception -/
def gIsE (xt : List (Str × XC)) (T : Str) : G1 := fun v S => match v with
  | .x c _ => match xt.lookup c with
    | some q => .ok (.d (.bool (isB c q T))) S
    | none => .bad
  | _ => .bad
/-- e.f -/
def gFld (xt : List (Str × XC)) (f : Str) : G1 := fun v S => match v with
  | .x c fs => match xt.lookup c with
    | some q => if f ∈ q.fs then match fs.lookup f with
        | some d => .ok (.d d) S
        | none => .bad
      else .bad
    | none => .bad
  | _ => .bad
theorem nx_isE (xt : List (Str × XC)) (T : Str) : NX1 (gIsE xt T) := by
  intro a S
  unfold gIsE
  repeat' split
  all_goals trivial
theorem nx_fld (xt : List (Str × XC)) (T : Str) : NX1 (gFld xt T) := by
  intro a S
  unfold gFld
  repeat' split
  all_goals trivial
section
variable {X : Cx} {W : WX} {xt : List (Str × XC)} {σ : L2.St} {H : Hp} {pins : List (Addr × Obj)} {s : Shared} {ρ : Pl} {S S' : Sto}
theorem hx_of {p' : Addr × Value × Option Addr} (h : X.F.hx = some p') : X.calm = false ∧ ∃ p, X.pn.head? = some p ∧ p' = hxo p := by
  have h : (if X.calm = true then none else X.pn.head?.map hxo) = some p' := h
  split at h
  · cases h
  · rename_i hc
    obtain ⟨p, h1, h2⟩ := Option.map_eq_some_iff.mp h
    exact ⟨by simpa using hc, p, h1, h2.symm⟩
/-- the object of the exception -/
theorem exc_inst {c : Str} {fs : Fds} {x : V} (I : Inv X pins σ H s) (hot : ∀ p, X.pn.head? = some p → X.calm = false → ∃ vs : Array Value, p.2.data = .fields vs) (h : Vr X.F H ρ x (.x c fs)) :
    ∃ (p : Addr × Obj) (C : Addr) (od : Option Obj), x = .ref p.1 ∧ X.mg c = some (.ref C) ∧ PySem.W.InstAt s.heap p.1 p.2 C od ∧ XdR X.F H ρ.m fs p.2.dict ∧ p.2.cls = .ref C := by
  obtain ⟨p', C, hx, rfl, hm, hc, hd⟩ := h
  obtain ⟨hcalm, p, hp, rfl⟩ := hx_of hx
  obtain ⟨vs, hv⟩ := hot p hp hcalm
  obtain ⟨ha, _⟩ := I.pin p (List.mem_append_left _ (List.mem_of_mem_head? hp))
  have hc : p.2.cls = .ref C := hc
  have hd : XdR X.F H ρ.m fs p.2.dict := hd
  cases e : p.2.dict with
  | none =>
    rw [e] at hd
    exact ⟨p, C, none, rfl, hm, ⟨ha, hc, by unfold PySem.W.notCls; rw [hv] <;> rfl, by rw [e]; trivial⟩, by rw [e]; exact hd, hc⟩
  | some d =>
    rw [e] at hd
    obtain ⟨_, gs, h1, _⟩ := id hd
    have hx : ObjOk X.prog X.w H s.heap d (.xd gs) := I.hok d _ h1
    obtain ⟨mA, hns, hr⟩ := hx
    obtain ⟨od, ho, _⟩ := lookIn_ns hns
    exact ⟨p, C, some od, rfl, hm, ⟨ha, hc, by unfold PySem.W.notCls; rw [hv] <;> rfl, by rw [e]; exact ho⟩, by rw [e]; exact hd, hc⟩
theorem cd_isE (xo : XtOk X.prog X.w X.K X.mg X.base xt) (hot : ∀ p, X.pn.head? = some p → X.calm = false → ∃ vs : Array Value, p.2.data = .fields vs) {T : Str} {vT : V} {D : Value} (hT : ∀ u, RelV vT u → u = D) (hk : ∀ c q C, xt.lookup c = some q → XtC X.prog X.w X.K X.mg X.base xt c q C → PySem.W.kitOne X.K (.ref C) D = some (isB c q T)) :
    CallR X (.builtin "isinstance") (fun xs H Q => ∃ x, xs = [x, vT] ∧ rD1 X.F (gIsE xt T) x H Q) := by
  intro pins s σ H xs us Q I rx h
  obtain ⟨x, rfl, ρ, S, va, r, S', hS, ha, hg, hc⟩ := h
  unfold gIsE at hg
  split at hg
  · rename_i c fs
    split at hg
    · rename_i q eq
      cases hg
      obtain ⟨p, C, od, rfl, hm, J, _, _⟩ := exc_inst I hot ha
      obtain ⟨C', xc⟩ := xo.all c q eq
      have e : C' = C := by
        have := xc.mc
        rw [hm] at this
        exact (Value.ref.inj (Option.some.inj this)).symm
      subst e
      have hne : xt ≠ [] := fun z => by rw [z] at eq; cases eq
      cases rx with
      | cons r1 rr =>
        cases rr with
        | cons r2 rr =>
          cases rr
          cases r1
          have e2 := hT _ r2
          subst e2
          exact PySem.W.kia_one (PySem.W.kitx_exc xc.cls xc.xf.ga xc.xf.gg xc.xf.exC xc.ca (xo.hn hne) (xo.ht hne) xc.hm) I.kIn J (hk c q C' eq xc) (fun z => nomatch z) fun tk => ⟨.bl _, H, I.kept (t' := tk) fun _ _ z => z, rfl, hc.here hS (show Rp _ _ _ _ _ from .bl _)⟩
    · cases hg
  · cases hg
theorem le_isE {a : Expr} {fa : SE} {T : Str} {q : XC} {p p2 pos : Pos} (xo : XtOk X.prog X.w X.K X.mg X.base xt) (hot : ∀ p, X.pn.head? = some p → X.calm = false → ∃ vs : Array Value, p.2.data = .fields vs) (hT : xt.lookup T = some q) (hg : Gl X "isinstance") (hm : X.mg "isinstance" = none) (ha : PE X a (LE X.F W fa)) (hgT : Gl X T) (hdT : (T == ("__debug__" : Str)) = false)
    (he : starEach [a, .Name T p2] X.env = (false, eval a X.env) :: starEach [.Name T p2] X.env) : PE X (.Call (.Name "isinstance" p) [a, .Name T p2] [] pos) (LE X.F W (sUn (gIsE xt T) fa)) := by
  obtain ⟨D, xd⟩ := xo.all T q hT
  exact (pe_callB (cd_isE (vT := .ref D) (D := .ref D) xo hot (fun u r => r) fun c q' C e xc => (xc.up T q D hT xd.mc).1) hg hm (by decide +kernel) (pa_cons ha (pa_cons (pe_glob (v := .ref D) hgT xd.mc (show RelV (.ref D) (.ref D) from rfl) hdT) pa_nil rfl) he) (by decide) (by decide) he (by rfl)).weak fun σ H Q hq =>
    le_one (nx_isE xt T) (RR := fun x H1 Q => ∃ y, [x, .ref D] = [y, .ref D] ∧ rD1 X.F (gIsE xt T) y H1 Q) (fun x H Q q => ⟨x, rfl, q⟩) hq
theorem le_isV {a : Expr} {fa : SE} {p p2 pos : Pos} (xo : XtOk X.prog X.w X.K X.mg X.base xt) (hot : ∀ p, X.pn.head? = some p → X.calm = false → ∃ vs : Array Value, p.2.data = .fields vs) (hg : Gl X "isinstance") (hm : X.mg "isinstance" = none) (ha : PE X a (LE X.F W fa)) (hgT : Gl X "ValueError") (hmT : X.mg "ValueError" = none)
    (he : starEach [a, .Name "ValueError" p2] X.env = (false, eval a X.env) :: starEach [.Name "ValueError" p2] X.env) : PE X (.Call (.Name "isinstance" p) [a, .Name "ValueError" p2] [] pos) (LE X.F W (sUn (gIsE xt "ValueError") fa)) :=
  (pe_callB (cd_isE (vT := .ty "ValueError") (D := .type "ValueError") xo hot (fun u r => r) fun c q' C e xc => xc.upV) hg hm (by decide +kernel) (pa_cons ha (pa_cons (pe_bltn (v := .ty "ValueError") hgT hmT (by decide +kernel) rfl (by decide) (by decide)) pa_nil rfl) he) (by decide) (by decide) he (by rfl)).weak fun σ H Q hq =>
    le_one (nx_isE xt "ValueError") (RR := fun x H1 Q => ∃ y, [x, .ty "ValueError"] = [y, .ty "ValueError"] ∧ rD1 X.F (gIsE xt "ValueError") y H1 Q) (fun x H Q q => ⟨x, rfl, q⟩) hq
theorem fs_look {K : Fg} {m : List Addr} {f : Str} {d : PyData} : ∀ {fs : List (Str × V)} {gs : Fds}, FsR K H m fs gs → gs.lookup f = some d → ∃ v, fs.lookup f = some v ∧ Rp K H m v d
  | _, _, .nil, h => by cases h
  | _, _, .cons (a := a) (b := b) hab ht, h => by
    obtain ⟨f1, v1⟩ := a
    obtain ⟨f2, d2⟩ := b
    obtain ⟨e, hr⟩ := hab
    have e : f1 = f2 := e
    subst e
    rw [List.lookup_cons] at h ⊢
    cases hb : f == f1 with
    | true =>
      rw [hb] at h
      cases h
      exact ⟨v1, rfl, hr⟩
    | false =>
      rw [hb] at h
      exact fs_look ht h
theorem le_fld {e : Expr} {fe : SE} {n : Str} {pos : Pos} (xo : XtOk X.prog X.w X.K X.mg X.base xt) (hot : ∀ p, X.pn.head? = some p → X.calm = false → ∃ vs : Array Value, p.2.data = .fields vs) (he : PE X e (LE X.F W fe)) (hb : attributeBase e n X.env (eval e X.env) = eval e X.env) : PE X (.Attribute e n pos) (LE X.F W (sUn (gFld xt n) fe)) := by
  refine ⟨fun pins s σ H Q I h => ?_⟩
  have h2 := le_one (nx_fld xt n) (RR := fun x H1 Q => rD1 X.F (gFld xt n) x H1 Q) (fun x H Q q => q) h
  refine attr_of hb (thn (he.run pins s σ H _ I h2) fun u s1 hh => ?_)
  obtain ⟨x, H1, I1, rx, ρ, S, va, r, S', hS, ha, hg, hc⟩ := hh
  unfold gFld at hg
  split at hg
  · rename_i c fs
    split at hg
    · rename_i q eq
      split at hg
      · rename_i hin
        split at hg
        · rename_i d ed
          cases hg
          obtain ⟨p, C, od, rfl, hm, J, hd, _⟩ := exc_inst I1 hot ha
          obtain ⟨C', xc⟩ := xo.all c q eq
          have e1 : C' = C := by
            have := xc.mc
            rw [hm] at this
            exact (Value.ref.inj (Option.some.inj this)).symm
          subst e1
          obtain rfl : u = Value.ref p.1 := rx
          cases edd : p.2.dict with
          | none =>
            rw [edd] at hd
            have hd : fs = [] := hd
            rw [hd] at ed
            cases ed
          | some dd =>
            rw [edd] at hd
            obtain ⟨_, gs, h1, hfs⟩ := hd
            obtain ⟨v, hv1, hv2⟩ := fs_look hfs ed
            have hx : ObjOk X.prog X.w H1 s1.heap dd (.xd gs) := I1.hok dd _ h1
            obtain ⟨mA, hns, hr⟩ := hx
            obtain ⟨od2, ho, hl⟩ := lookIn_ns hns
            obtain ⟨u, hu, ru⟩ := RelO.some_of (v := v) (o := mA n) (by rw [← hv1]; exact hr n)
            have J2 : PySem.W.InstAt s1.heap p.1 p.2 C' (some od2) := ⟨J.at_, J.cls, J.no, by rw [edd]; exact ho⟩
            exact HandSPX.exc_get I1.kIn J2 xc.xf.ga xc.xf.gg xc.xf.exC (PySem.W.findObj_own xc.xf.hdC (xc.nof n hin) rfl (by rw [hl, hu])) (handed_of ru) ⟨v, H1, I1.tok _, ru, hc.here hS (show Rp _ _ _ _ _ from hv2)⟩
        · cases hg
      · cases hg
    · cases hg
  · cases hg
end
/-! ### raise -/
theorem fsr_of {K : Fg} {H : Hp} {m : List Addr} : ∀ {ps : List Str} {xs : List V} {ds : List PyData}, RpL K H m xs ds → FsR K H m (ps.zip xs) (ps.zip ds)
  | [], _, _, _ => by rw [List.zip_nil_left, List.zip_nil_left]; exact .nil
  | p :: ps, _, _, .nil => by rw [List.zip_nil_right, List.zip_nil_right]; exact .nil
  | p :: ps, _, _, .cons a b => .cons ⟨rfl, a⟩ (fsr_of b)
theorem pairedRev {α β : Type} {F : α → β → Prop} : ∀ {l : List α} {r : List β}, Paired F l r → Paired F l.reverse r.reverse
  | _, _, .nil => .nil
  | _, _, .cons a b => by
    rw [List.reverse_cons, List.reverse_cons]
    exact pairedAppend (pairedRev b) (.cons a .nil)
theorem RpL.getS {K : Fg} {H : Hp} {m : List Addr} : ∀ {ds : List PyData} {xs : List V} {i : Nat} {z : Str}, RpL K H m xs ds → ds[i]? = some (.str z) → xs[i]? = some (.str z)
  | _, _, i, _, .nil, h => by simp at h
  | _, _, 0, z, .cons a b, h => by
    simp only [List.getElem?_cons_zero, Option.some.injEq] at h ⊢
    subst h
    cases a
    rfl
  | _, _, i + 1, z, .cons a b, h => by
    simp only [List.getElem?_cons_succ] at h ⊢
    exact b.getS h
theorem ls_raise {X : Cx} {E : XK} {xt : List (Str × XC)} {c : Str} {q : XC} {ms : Msg} {p pos pos2 : Pos} {a : Expr} {es : List Expr} {as : List SE} (hc : X.calm = true) (hh : X.A.handled = none) (hdp : X.A.depth + 1 < recursionLimit) (tk : L2N.Takes X (WI E)) (xo : XtOk X.prog X.w X.K X.mg X.base xt) (hq : xt.lookup c = some q) (hms : q.ms = some ms) (hg : Gl X c)
    (hdb : (c == ("__debug__" : Str)) = false) (ha : PA X (a :: es) (LA X.F (WI E) (sArgs as))) (he : starEach (a :: es) X.env = (false, eval a X.env) :: starEach es X.env) (hpl : (backTo pos (starEach es X.env)).any (·.1) = false) :
    PS X (.Raise (some (.Call (.Name c p) (a :: es) [] pos)) none pos2) (LS X.F E (sRaise c q as)) := by
  obtain ⟨C, xc⟩ := xo.all c q hq
  obtain ⟨fI, fd, T, iC, tI, hne, F1, hb⟩ := xc.ini ms hms
  refine (L2N.ps_raise hc tk (pmk_init (p := p) (pos := pos) T iC tI F1 hh hdp hb hg xc.mc ha hdb he hpl)).weak fun D σ H ⟨Γ, S, ρ, hS, hE, hp⟩ => ?_
  refine ⟨Γ, S, ρ, hS, hE, PstS.bind hp fun vs S1 ρ1 H1 xs _ x1 hS1 q1 hp => ?_⟩
  unfold excR at hp
  split at hp
  · rename_i ds ms' ed em
    rw [hms] at em
    cases em
    split at hp
    · rename_i hok
      obtain ⟨ho, hl, hl2⟩ := hok
      have hr := datas_rp q1 ed
      have hxl := hr.length
      refine ⟨by omega, fun b hb0 => ?_⟩
      rw [List.append_nil]
      refine ⟨b, xs, rfl, by omega, upd_same, ?_, fun d hd hda => ?_⟩
      · cases ms with
        | txt m => trivial
        | cat m i =>
          unfold Msg.okD at ho
          simp only at ho
          split at ho
          · rename_i z ez
            exact ⟨z, hr.getS ez, by rw [← SZ_eq]; exact of_decide_eq_true ho⟩
          · cases ho
      · rw [upd_ne hda] at hd
        refine ⟨rfl, d, (q.fs.zip xs).reverse, upd_same, by rw [upd_ne hda, upd_same], hd, ?_⟩
        have e : upd (del (upd (upd (upd H1 b (exo b C none)) d (exd d (q.fs.zip xs).reverse)) b (exo b C (some d))) b) d (.xd (q.fs.zip xs).reverse) = upd H1 d (.xd (q.fs.zip xs).reverse) := by
          funext y
          by_cases h1 : y = d
          · subst h1; rw [upd_same, upd_same]
          · rw [upd_ne h1, upd_ne h1]
            by_cases h2 : y = b
            · subst h2; rw [del_same, hb0]
            · rw [del_ne h2, upd_ne h2, upd_ne h1, upd_ne h2]
        rw [e]
        obtain ⟨g1, g2⟩ := hS1.fresh (o := .xd (q.fs.zip xs).reverse) hd
        exact hp ρ1 _ C (some d) g2 g1 xc.mc ⟨hS1.notin hd, _, upd_same, FsR.cov g2.cov (pairedRev (fsr_of hr))⟩
    · exact hp.elim
  · exact hp.elim
end L2.Pv

set_option Elab.async false
set_option linter.all false
set_option maxRecDepth 100000
/-! Pv: try .. except -/
namespace L2.Pv
open PySem PySem.Spec PyProof.Rows L2
/-- what the body of a try leaves -/
inductive RX where
  | ok (fl : Fl) (S : Sto)
  | exc (c : Str) (fs : Fds) (Γ : Env) (S : Sto)
  | bad
abbrev SX := Env → Sto → RX
def xTo (Γ : Env) : R Fl → RX
  | .ok fl S => .ok fl S
  | .exc c fs S => .exc c fs Γ S
  | .bad => .bad
def xRet (f : SE) : SX := fun Γ S => xTo Γ (sRet f Γ S)
def xDrop (f : SE) : SX := fun Γ S => xTo Γ (sDrop f Γ S)
def xSet (i : Nat) (f : SE) : SX := fun Γ S => xTo Γ (sSet i f Γ S)
def xIte (t : ST) (a b : SX) : SX := fun Γ S => match t Γ S with
  | .ok v S1 => if v = true then a Γ S1 else b Γ S1
  | .exc c fs S1 => .exc c fs Γ S1
  | .bad => .bad
def xSkip : SX := fun Γ S => .ok (.nx Γ) S
def xSeq (a b : SX) : SX := fun Γ S => match a Γ S with
  | .ok (.nx Γ1) S1 => b Γ1 S1
  | r => r
def xLift (s : SS) : SX := fun Γ S => match s Γ S with
  | .ok fl S1 => .ok fl S1
  | _ => .bad
def clrX (Γ : Env) : Env := Γ.map fun o => match o with
  | some (.x _ _) => none
  | o => o
/-- behind a suite -/
def offE (i : Option Nat) (Γ : Env) : Env := match i with
  | some i => clrX (Γ.set i none)
  | none => clrX Γ
def offS (i : Option Nat) : R Fl → R Fl
  | .ok (.nx Γ) S => .ok (.nx (offE i Γ)) S
  | .ok (.bk Γ) S => .ok (.bk (offE i Γ)) S
  | .ok (.ct Γ) S => .ok (.ct (offE i Γ)) S
  | .ok (.rt (.x _ _)) _ => .bad
  | .ok (.rt v) S => .ok (.rt v) S
  | _ => .bad
/-- one clause: except T as name (slot i), or except T -/
def onS (i : Option Nat) (c : Str) (fs : Fds) (s : SS) : SS := fun Γ S => match i with
  | some i => offS (some i) (s (Γ.set i (some (.x c fs))) S)
  | none => offS none (s Γ S)
def hands (xt : List (Str × XC)) (i : Option Nat) (c : Str) (fs : Fds) (Γ : Env) (S : Sto) : List (Str × SS) → R Fl
  | [] => .exc c fs S
  | (T, s) :: r => match xt.lookup c with
    | some q => if isB c q T = true then onS i c fs s Γ S else hands xt i c fs Γ S r
    | none => .bad
def sTry (xt : List (Str × XC)) (i : Option Nat) (b : SX) (hs : List (Str × SS)) : SS := fun Γ S => match b Γ S with
  | .ok fl S1 => .ok fl S1
  | .exc c fs Γ1 S1 => hands xt i c fs Γ1 S1 hs
  | .bad => .bad
def PstX (K : Fx) (W : WX) (D : Ends) (ρ : Pl) (H : Hp) : RX → Prop
  | .ok fl S' => SC K ρ H S' D fl
  | .exc c fs Γ S' => ∀ ρ' H' σ' C d, Ext ρ H ρ' H' → StR K ρ' S' H' → EnR K H' ρ' σ' Γ → K.mg c = some (.ref C) → XdR K H' ρ'.m fs d → W (.ref C) d σ' H'
  | .bad => False
def LX (K : Fx) (W : WX) (f : SX) : TS := fun D σ H => ∃ Γ S ρ, StR K ρ S H ∧ EnR K H ρ σ Γ ∧ PstX K W D ρ H (f Γ S)
section
variable {K : Fx} {W : WX} {D : Ends} {ρ ρ1 : Pl} {H H1 : Hp}
theorem PstX.mono {r : RX} (x : Ext ρ H ρ1 H1) (h : PstX K W D ρ H r) : PstX K W D ρ1 H1 r := by
  cases r with
  | ok fl S' => exact SC.mono x h
  | exc c fs Γ S' => exact fun ρ' H' σ' C d x' => h ρ' H' σ' C d (x.trans x')
  | bad => exact h
/-- what is raised where the slots stand so -/
theorem contX_of {c : Str} {fs : Fds} {Γ : Env} {S' : Sto} {σ : L2.St} (hE : EnR K H ρ σ Γ) (h : PstX K W D ρ H (.exc c fs Γ S')) : ContX K ρ H S' c fs (WE W σ) :=
  fun ρ' H' C d x hS' hm hd => h ρ' H' σ C d x hS' (hE.ext x) hm hd
end
section
variable {X : Cx} {W : WX} {e c : Expr} {fe : SE} {ta : ST} {sa sb : SX} {s : SS} {st : Stmt} {rest body : List Stmt} {pos : Pos}
theorem lx_ret (he : PE X e (LE X.F W fe)) : PS X (.Return (some e) pos) (LX X.F W (xRet fe)) := (ps_ret he).weak fun D σ H ⟨Γ, S, ρ, hS, hE, hp⟩ => by
  refine ⟨Γ, S, ρ, hS, hE, ?_⟩
  unfold xRet sRet at hp
  cases eq : fe Γ S with
  | bad => rw [eq] at hp; exact hp.elim
  | exc c fs S1 => rw [eq] at hp; exact contX_of hE hp
  | ok v S1 => rw [eq] at hp; exact fun ρ1 H1 x x1 hS1 q1 => hp ρ1 H1 x x1 hS1 q1
theorem lx_drop (he : PE X e (LE X.F W fe)) (hs : swapsWith e none pos.line X.env = pure false) : PS X (.Expr e pos) (LX X.F W (xDrop fe)) := (ps_expr he hs).weak fun D σ H ⟨Γ, S, ρ, hS, hE, hp⟩ => by
  refine ⟨Γ, S, ρ, hS, hE, ?_⟩
  unfold xDrop sDrop at hp
  cases eq : fe Γ S with
  | bad => rw [eq] at hp; exact hp.elim
  | exc c fs S1 => rw [eq] at hp; exact contX_of hE hp
  | ok v S1 => rw [eq] at hp; exact fun ρ1 H1 x x1 hS1 q1 => hp ρ1 H1 σ x1 hS1 (hE.ext x1)
theorem lx_set_of {i : Nat} (h : PS X st (tAsg (LE X.F W fe) (gName i))) : PS X st (LX X.F W (xSet i fe)) := h.weak fun D σ H ⟨Γ, S, ρ, hS, hE, hp⟩ => by
  refine ⟨Γ, S, ρ, hS, hE, ?_⟩
  unfold xSet sSet at hp
  cases eq : fe Γ S with
  | bad => rw [eq] at hp; exact hp.elim
  | exc c fs S1 => rw [eq] at hp; exact contX_of hE hp
  | ok v S1 => rw [eq] at hp; exact fun ρ1 H1 x x1 hS1 q1 => hp ρ1 H1 _ x1 hS1 ((hE.ext x1).set q1)
theorem lx_if {a b : List Stmt} (hc : PT X c (LT X.F W ta)) (ha : PSs X a (LX X.F W sa)) (hb : PSs X b (LX X.F W sb)) : PS X (.If c a b pos) (LX X.F W (xIte ta sa sb)) := (ps_if hc ha hb).weak fun D σ H ⟨Γ, S, ρ, hS, hE, hp⟩ => by
  refine ⟨Γ, S, ρ, hS, hE, ?_⟩
  unfold xIte at hp
  cases eq : ta Γ S with
  | bad => rw [eq] at hp; exact hp.elim
  | exc c fs S1 => rw [eq] at hp; exact contX_of hE hp
  | ok v S1 =>
    rw [eq] at hp
    intro ρ1 H1 x x1 hS1 q1
    cases q1
    replace hp := PstX.mono x1 hp
    cases v with
    | true => exact ⟨Γ, S1, ρ1, hS1, hE.ext x1, hp⟩
    | false => exact ⟨Γ, S1, ρ1, hS1, hE.ext x1, hp⟩
theorem lx_nil : PSs X [] (LX X.F W xSkip) := pss_nil.weak fun D σ H ⟨Γ, S, ρ, hS, hE, hp⟩ => hp ρ H σ (Ext.refl hS) hS hE
theorem lx_one (h1 : PS X st (LX X.F W sa)) : PSs X [st] (LX X.F W sa) := pss_one h1
theorem lx_cons (h1 : PS X st (LX X.F W sa)) (h2 : PSs X rest (LX X.F W sb)) : PSs X (st :: rest) (LX X.F W (xSeq sa sb)) := (pss_cons h1 h2).weak fun D σ H ⟨Γ, S, ρ, hS, hE, hp⟩ => by
  refine ⟨Γ, S, ρ, hS, hE, ?_⟩
  unfold xSeq at hp
  cases eq : sa Γ S with
  | bad => rw [eq] at hp; exact hp
  | exc c fs Γ1 S1 => rw [eq] at hp; exact hp
  | ok fl S1 =>
    rw [eq] at hp
    cases fl with
    | nx Γ1 => exact fun ρ' H' σ' x hS' hE' => ⟨Γ1, S1, ρ', hS', hE', PstX.mono x hp⟩
    | rt v => exact hp
    | bk Γ1 => exact hp
    | ct Γ1 => exact hp
theorem lx_lift (h : PS X st (LS X.F (fun _ _ _ => False) s)) : PS X st (LX X.F W (xLift s)) := h.weak fun D σ H ⟨Γ, S, ρ, hS, hE, hp⟩ => by
  refine ⟨Γ, S, ρ, hS, hE, ?_⟩
  unfold xLift at hp
  cases eq : s Γ S with
  | bad => rw [eq] at hp; exact hp.elim
  | exc c fs S1 => rw [eq] at hp; exact hp.elim
  | ok fl S1 => rw [eq] at hp; exact hp
end
section
variable {g : Fg} {mg : Str → Option Value} {H : Hp} {ρ : Pl}
theorem vr_hot {p : Option (Addr × Value × Option Addr)} {x : V} {v : Vl} (h : Vr ⟨g, mg, none⟩ H ρ x v) : Vr ⟨g, mg, p⟩ H ρ x v := by
  cases v with
  | d d => exact h
  | o n => exact h
  | k ds => exact h
  | x c fs =>
    obtain ⟨p, C, h1, _⟩ := h
    cases h1
theorem enr_hot {p : Option (Addr × Value × Option Addr)} {σ : L2.St} {Γ : Env} (h : EnR ⟨g, mg, none⟩ H ρ σ Γ) : EnR ⟨g, mg, p⟩ H ρ σ Γ := pairedMono h fun _ _ _ q v e => let ⟨z, h1, h2⟩ := q v e; ⟨z, h1, vr_hot h2⟩
theorem vr_cold {p : Option (Addr × Value × Option Addr)} {x : V} {v : Vl} (n : ∀ c fs, v ≠ .x c fs) (h : Vr ⟨g, mg, p⟩ H ρ x v) : Vr ⟨g, mg, none⟩ H ρ x v := by
  cases v with
  | d d => exact h
  | o n => exact h
  | k ds => exact h
  | x c fs => exact absurd rfl (n c fs)
theorem enr_clr {p : Option (Addr × Value × Option Addr)} {σ : L2.St} {Γ : Env} (h : EnR ⟨g, mg, p⟩ H ρ σ Γ) : EnR ⟨g, mg, none⟩ H ρ σ (clrX Γ) := by
  unfold clrX
  induction h with
  | nil => exact .nil
  | @cons a b _ _ hab ht ih =>
    refine .cons (fun v e => ?_) ih
    cases b with
    | none => cases e
    | some u =>
      cases u with
      | x c fs => cases e
      | d d => cases e; obtain ⟨z, h1, h2⟩ := hab _ rfl; exact ⟨z, h1, vr_cold (fun _ _ z => nomatch z) h2⟩
      | o n => cases e; obtain ⟨z, h1, h2⟩ := hab _ rfl; exact ⟨z, h1, vr_cold (fun _ _ z => nomatch z) h2⟩
      | k ds => cases e; obtain ⟨z, h1, h2⟩ := hab _ rfl; exact ⟨z, h1, vr_cold (fun _ _ z => nomatch z) h2⟩
def offD (i : Option Nat) (D : Ends) : Ends := match i with
  | some i => { nx := fun σ' H' => D.nx (σ'.set i none) H', rt := D.rt, bk := fun σ' H' => D.bk (σ'.set i none) H', ct := fun σ' H' => D.ct (σ'.set i none) H' }
  | none => D
theorem enr_off {p : Option (Addr × Value × Option Addr)} {σ : L2.St} {Γ : Env} (i : Option Nat) (h : EnR ⟨g, mg, p⟩ H ρ σ Γ) : EnR ⟨g, mg, none⟩ H ρ (match i with | some i => σ.set i none | none => σ) (offE i Γ) := by
  cases i with
  | none => exact enr_clr h
  | some i => exact enr_clr h.setNone
theorem off_ok {p : Option (Addr × Value × Option Addr)} {E F : XK} {D : Ends} {r : R Fl} (i : Option Nat) (h : PstS ⟨g, mg, none⟩ E D ρ H (offS i r)) : PstS ⟨g, mg, p⟩ F (offD i D) ρ H r := by
  cases r with
  | bad => exact h.elim
  | exc c fs S => exact h.elim
  | ok fl S =>
    cases fl with
    | nx Γ =>
      intro ρ' H' σ' x hS' hE'
      have q := h ρ' H' _ x hS' (enr_off i hE')
      cases i <;> exact q
    | bk Γ =>
      intro ρ' H' σ' x hS' hE'
      have q := h ρ' H' _ x hS' (enr_off i hE')
      cases i <;> exact q
    | ct Γ =>
      intro ρ' H' σ' x hS' hE'
      have q := h ρ' H' _ x hS' (enr_off i hE')
      cases i <;> exact q
    | rt v =>
      intro ρ' H' x xx hS' hv
      cases v with
      | x c fs => exact h.elim
      | d d =>
        have q := h ρ' H' x xx hS' (vr_cold (fun _ _ z => nomatch z) hv)
        cases i <;> exact q
      | o n =>
        have q := h ρ' H' x xx hS' (vr_cold (fun _ _ z => nomatch z) hv)
        cases i <;> exact q
      | k ds =>
        have q := h ρ' H' x xx hS' (vr_cold (fun _ _ z => nomatch z) hv)
        cases i <;> exact q
end
section
variable {X : Cx} {E : XK} {xt : List (Str × XC)} {T n : Str} {q : XC} {i : Nat} {body suite : List Stmt} {b₀ : Stmt} {np pos pos' : Pos} {b : SX} {s : SS}
theorem ls_try_as (hs : X.stack = X.env :: X.outer) (hf : X.env.frame = some X.env.locals) (hN : X.N.Nodup) (hi : X.N[i]? = some n) (hln : X.env.kindOf n = some .local) (hcalm : X.calm = true) (tk : L2N.Takes X (WI E)) (xo : XtOk X.prog X.w X.K X.mg X.base xt) (hT : xt.lookup T = some q) (hg : Gl X T) (hdb : (T == ("__debug__" : Str)) = false)
    (hb : ∀ (W : WX) (pn : List (Addr × Obj)) (xe : Value → Shared → Prop), L2N.Takes (X.tr pn xe) W → PassesOwn (model X.prog X.w) X.A X.env xe → PSs (X.tr pn xe) body (LX X.F W b))
    (hsu : ∀ (a : Addr) (oe : Obj) (cls : Value) (d : Option Addr) (pn : List (Addr × Obj)), L2N.Zn cls d oe → (∃ vs, oe.data = .fields vs) → PSs (X.suite a ((a, oe) :: pn)) (b₀ :: suite) (LS ⟨⟨X.K, X.w⟩, X.mg, some (a, cls, d)⟩ (fun _ _ _ => False) s)) :
    PS X (.Try body [.ExceptHandler (some (.Name T np)) (some n) (b₀ :: suite) pos'] [] [] pos) (LS X.F E (sTry xt (some i) b [(T, s)])) := by
  obtain ⟨DT, xd⟩ := xo.all T q hT
  refine (L2N.ps_try_as (Wout := WI E) (ts := fun a cls d => LS ⟨⟨X.K, X.w⟩, X.mg, some (a, cls, d)⟩ (fun _ _ _ => False) s) hs hf hN hi hln ⟨hg, hdb, .inl xd.mc⟩ tk hb hsu).weak fun D σ H ⟨Γ, S, ρ, hS, hE, hp⟩ => ⟨Γ, S, ρ, hS, hE, ?_⟩
  have hF := F_calm hcalm
  rw [hF] at hp ⊢
  unfold sTry at hp
  cases eb : b Γ S with
  | bad => rw [eb] at hp; exact hp.elim
  | ok fl S1 => rw [eb] at hp; exact hp
  | exc c fs Γ1 S1 =>
    rw [eb] at hp
    intro ρ' H' σ' C d x hS' hE' hm hd
    unfold hands at hp
    simp only at hp
    split at hp
    · rename_i qc eqc
      obtain ⟨C', xc⟩ := xo.all c qc eqc
      have e1 : C' = C := by
        have := xc.mc
        have hm : X.mg c = some (.ref C) := hm
        rw [hm] at this
        exact (Value.ref.inj (Option.some.inj this)).symm
      subst e1
      refine ⟨isB c qc T, (xc.up T q DT hT xd.mc).2, fun hb1 a ha => ?_, fun hb0 => ?_⟩
      · rw [if_pos hb1] at hp
        refine ⟨Γ1.set i (some (.x c fs)), S1, ρ', hS', (enr_hot hE').set (x := .ref a) ⟨(a, .ref C', d), C', rfl, rfl, hm, rfl, hd⟩, ?_⟩
        exact off_ok (some i) (PstS.mono x hp)
      · rw [if_neg (by rw [hb0]; exact Bool.false_ne_true)] at hp
        exact hp ρ' H' C' d x hS' hm hd
    · exact hp.elim
/-- the clauses without a name -/
inductive HsOk (X : Cx) (xt : List (Str × XC)) : List ExceptHandler → List (Str × SS) → Prop
  | nil : HsOk X xt [] []
  | cons {T : Str} {q : XC} {s : SS} {b₀ : Stmt} {suite : List Stmt} {np pos' : Pos} {hds : List ExceptHandler} {l : List (Str × SS)} (hT : xt.lookup T = some q) (hg : Gl X T) (hdb : (T == ("__debug__" : Str)) = false)
      (hsu : ∀ (a : Addr) (oe : Obj) (cls : Value) (d : Option Addr) (pn : List (Addr × Obj)), L2N.Zn cls d oe → (∃ vs, oe.data = .fields vs) → PSs (X.suite a ((a, oe) :: pn)) (b₀ :: suite) (LS ⟨⟨X.K, X.w⟩, X.mg, some (a, cls, d)⟩ (fun _ _ _ => False) s)) (r : HsOk X xt hds l) :
      HsOk X xt (.ExceptHandler (some (.Name T np)) none (b₀ :: suite) pos' :: hds) ((T, s) :: l)
theorem hs_ok (xo : XtOk X.prog X.w X.K X.mg X.base xt) {hds : List ExceptHandler} {l : List (Str × SS)} (h : HsOk X xt hds l) : ∃ ll, L2N.HdsOk X hds ll ∧ ∀ {D : Ends} {c : Str} {fs : Fds} {Γ1 : Env} {S1 : Sto} {ρ ρ' : Pl} {H H' : Hp} {σ' : L2.St} {C : Addr} {d : Option Addr}, PstS ⟨⟨X.K, X.w⟩, X.mg, none⟩ E D ρ H (hands xt none c fs Γ1 S1 l) → Ext ρ H ρ' H' → StR (⟨X.K, X.w⟩ : Fg) ρ' S1 H' →
    EnR ⟨⟨X.K, X.w⟩, X.mg, none⟩ H' ρ' σ' Γ1 → X.mg c = some (.ref C) → XdR ⟨X.K, X.w⟩ H' ρ'.m fs d → wMany X.K (WI E) D ll (.ref C) d σ' H' := by
  induction h with
  | nil => exact ⟨[], .nil, fun {D c fs Γ1 S1 ρ ρ' H H' σ' C d} hp x hS' hE' hm hd => hp ρ' H' C d x hS' hm hd⟩
  | @cons T q s b₀ suite np pos' hds l hT hg hdb hsu r ih =>
    obtain ⟨ll, h1, h2⟩ := ih
    obtain ⟨DT, xd⟩ := xo.all T q hT
    refine ⟨(.ref DT, fun a cls d => LS ⟨⟨X.K, X.w⟩, X.mg, some (a, cls, d)⟩ (fun _ _ _ => False) s) :: ll, .cons ⟨hg, hdb, .inl xd.mc⟩ hsu h1, fun {D c fs Γ1 S1 ρ ρ' H H' σ' C d} hp x hS' hE' hm hd => ?_⟩
    unfold hands at hp
    split at hp
    · rename_i qc eqc
      obtain ⟨C', xc⟩ := xo.all c qc eqc
      have e1 : C' = C := by
        have := xc.mc
        rw [hm] at this
        exact (Value.ref.inj (Option.some.inj this)).symm
      subst e1
      refine ⟨isB c qc T, (xc.up T q DT hT xd.mc).2, fun hb1 a ha => ?_, fun hb0 => ?_⟩
      · rw [if_pos hb1] at hp
        exact ⟨Γ1, S1, ρ', hS', enr_hot hE', off_ok none (PstS.mono x hp)⟩
      · rw [if_neg (by rw [hb0]; exact Bool.false_ne_true)] at hp
        exact h2 hp x hS' hE' hm hd
    · exact hp.elim
theorem ls_try_many {h₀ : ExceptHandler} {hds : List ExceptHandler} {l : List (Str × SS)} (hs : X.stack = X.env :: X.outer) (hf : X.env.frame = some X.env.locals) (hcalm : X.calm = true) (tk : L2N.Takes X (WI E)) (xo : XtOk X.prog X.w X.K X.mg X.base xt)
    (hb : ∀ (W : WX) (pn : List (Addr × Obj)) (xe : Value → Shared → Prop), L2N.Takes (X.tr pn xe) W → PassesOwn (model X.prog X.w) X.A X.env xe → PSs (X.tr pn xe) body (LX X.F W b))
    (hh : HsOk X xt (h₀ :: hds) l) : PS X (.Try body (h₀ :: hds) [] [] pos) (LS X.F E (sTry xt none b l)) := by
  obtain ⟨ll, h1, h2⟩ := hs_ok (E := E) xo hh
  refine (L2N.ps_try_many (Wout := WI E) hs hf tk hb h1).weak fun D σ H ⟨Γ, S, ρ, hS, hE, hp⟩ => ⟨Γ, S, ρ, hS, hE, ?_⟩
  have hF := F_calm hcalm
  rw [hF] at hp ⊢
  unfold sTry at hp
  cases eb : b Γ S with
  | bad => rw [eb] at hp; exact hp.elim
  | ok fl S1 => rw [eb] at hp; exact hp
  | exc c fs Γ1 S1 =>
    rw [eb] at hp
    exact fun ρ' H' σ' C d x hS' hE' hm hd => h2 hp x hS' hE' hm hd
end
end L2.Pv

set_option Elab.async false
set_option linter.all false
set_option maxRecDepth 100000
/-! Pv: xs.count(d) -/
namespace L2.Pv
open PySem PySem.Spec PyProof.Rows L2
/-- xs.count(d) -/
def gCount (x : Vl) : GL := fun vs S => match lsV S x with
  | some ds => match vs with
    | [.d d] => if (PyData.plainAll ds && d.plain && decide (d.depth ≤ 60)) = true then .ok (.d (.int (ds.countP fun y => PyData.eqv y d : Nat))) S else .bad
    | _ => .bad
  | none => .bad
theorem nx_count : NXM gCount := by
  intro a vs S
  unfold gCount
  repeat' split
  all_goals trivial
theorem mt_countT {X : Cx} (hu : X.A.units + 64 < cLine) : MtR X "list.count" (rDM X.F gCount) := by
  intro pins s σ H x xs v us Q I rx rxs ⟨ρ, S, va, vs, r, S', hS, hx, hv, hg, hc⟩
  unfold gCount at hg
  split at hg
  · rename_i ds el
    split at hg
    · rename_i d
      split at hg
      · rename_i hb
        cases hg
        simp only [Bool.and_eq_true, decide_eq_true_eq] at hb
        obtain ⟨⟨b1, b2⟩, b3⟩ := hb
        obtain ⟨p, zs, rfl, h1, h2⟩ := ls_rp hS hx el
        obtain ⟨y, rfl, hy⟩ := hv.one rfl
        cases rx
        obtain ⟨u, rfl, ru⟩ := vals1 rxs
        obtain ⟨its, rv, hl, hlen⟩ := I.list (SqL.of h1)
        obtain ⟨as, ra⟩ := Dp.readsAll I ds zs its (RpL.dp ds zs b1 h2) rv
        obtain ⟨bs, rb⟩ := rd_reads I b2 (show Rp X.F H ρ.m y d from hy) ru
        refine PySem.SeqAt.count_list_data (vs := its.toArray) hl.isList ra rb b1 b2 (Nat.lt_of_le_of_lt (Nat.add_le_add_left (Nat.min_le_right _ _) _) (by omega)) ?_
        exact ⟨.int _, H, I.tok _, ⟨s.toks, rfl⟩, hc.here hS (show Rp _ _ _ _ _ from .int _)⟩
      · cases hg
    · cases hg
  · cases hg
theorem le_count {X : Cx} (hu : X.A.units + 64 < cLine) {o e : Expr} {apos cpos : Pos} {W : WX} {fo fe : SE} (f : M1 X o e "count" apos cpos) (ho : PE X o (LE X.F W fo)) (he : PE X e (LE X.F W fe)) : PE X (.Call (.Attribute o "count" apos) [e] [] cpos) (LE X.F W (sMetL gCount fo [fe])) :=
  (pe_bm PySem.F.plainAttrs_list PySem.F.slot_list_count PySem.F.type_list_count (mt_countT hu) ho (la_cons he la_nil f.st) f.base f.few f.line f.st f.plain).weak fun σ H Q h => by
    obtain ⟨Γ, S, ρ, hS, hE, hp⟩ := h
    refine ⟨Γ, S, ρ, hS, hE, Pst.bind hp fun va S1 ρ1 H1 x ev x1 hS1 q1 hp => ?_⟩
    split at hp
    · rename_i ds el
      refine ⟨?_, Γ, S1, ρ1, hS1, hE.ext x1, Pst.bind hp fun vs S2 ρ2 H2 ys ev2 x2 hS2 q2 hp => ?_⟩
      · obtain ⟨a, zs, rfl, h3, h4⟩ := ls_rp hS1 q1 el
        exact .inl ⟨rfl, zs, .inl (.inl h3)⟩
      · obtain ⟨v, S', e, hc⟩ := hp.leaf (nx_count va vs S2)
        exact ⟨ρ2, S2, va, vs, v, S', hS2, q1.ext x2, q2, e, hc⟩
    · exact hp.elim
end L2.Pv

set_option Elab.async false
set_option linter.all false
set_option maxRecDepth 100000
/-! sorted(xs, key=f), f a def of the program -/
namespace L2.Pv
open PySem PySem.Spec PyProof.Rows L2

/-! ### data without lists -/
mutual
def noL : PyData → Bool
  | .list _ => false
  | .dict _ => false
  | .tuple ds => noLs ds
  | _ => true
def noLs : List PyData → Bool
  | [] => true
  | d :: r => noL d && noLs r
end
theorem noLs_mem : ∀ {ds : List PyData}, noLs ds = true → ∀ d ∈ ds, noL d = true
  | d :: r, h, e, he => by
    have h' : noL d = true ∧ noLs r = true := by simpa [noLs] using h
    rcases List.mem_cons.mp he with rfl | he
    · exact h'.1
    · exact noLs_mem h'.2 e he

/-! ### sorted of a list or a tuple -/
def IsSq (h : Heap) (l : Addr) (xs : Array Value) : Prop := ∃ o n, h.get? l = some o ∧ (o.cls = .type "list" ∨ o.cls = .type "tuple") ∧ o.data = .seq xs n
theorem IsSq.ofL {h : Heap} {l : Addr} {xs : Array Value} (x : h.IsList l xs) : IsSq h l xs := let ⟨o, ho, hc, n, hd⟩ := x; ⟨o, n, ho, .inl hc, hd⟩
theorem IsSq.ofT {h : Heap} {l : Addr} {xs : Array Value} (x : IsTup h l xs) : IsSq h l xs := let ⟨o, ho, hc, n, hd⟩ := x; ⟨o, n, ho, .inr hc, hd⟩
section
variable {prog : Program} {w : World} {A : Around} {E : Value → Shared → Prop} {s : Shared}
theorem collect_sq {l : Addr} {vs : List Value} {Q : List Value → Shared → Prop} (hl : IsSq s.heap l vs.toArray)
    (h : Q vs { s with heap := (s.heap.push (seqObj "list" #[] 0)).update s.heap.objs.size (Obj.mapSeq (· ++ vs.toArray)) }) (hsz : vs.length ≤ sizeLine) :
    wpAny (model prog w) A (collect (.ref l)) Q E s := by
  obtain ⟨o, n, ho, hc, hd⟩ := id hl
  unfold collect
  refine wpAny_bind (wpAny_runValue (codeAny_builtin entry_proto_collect' ?_))
  show wpAny _ _ (do again (.builtin "list.__iadd__" ⟨[← newList [], .ref l], []⟩)) _ _ s
  refine wpAny_bind (wpAny_newList (wpAny_pure ⟨Code.quiet_builtin _ (by decide +kernel), codeAny_builtin entry_list_iadd' ?_⟩))
  show wpAny _ _ (Builtin.List.listExtendWith (.ref s.heap.objs.size) (.ref l) (.ref s.heap.objs.size)) _ _ { s with heap := s.heap.push (seqObj "list" #[] 0) }
  unfold Builtin.List.listExtendWith
  have ho' : (s.heap.push (seqObj "list" #[] 0)).get? l = some o := Heap.get?_push_of_some _ ho
  obtain ⟨T, hT, hT2⟩ : ∃ T, o.cls = .type T ∧ (T = "list" ∨ T = "tuple") := by
    rcases hc with hc | hc
    · exact ⟨_, hc, .inl rfl⟩
    · exact ⟨_, hc, .inr rfl⟩
  refine wpAny_bind (wpAny_typeOf (T := T) ⟨o, ho', hT⟩ ?_)
  have ht : (Value.type T == Value.type "list" || Value.type T == Value.type "tuple") = true := by
    rcases hT2 with rfl | rfl
    · rfl
    · rfl
  rw [if_pos (by rw [Bool.or_assoc, ht]; simp)]
  refine wpAny_bind (listItems_at ho' hd ?_)
  refine wpAny_bind (listItems_at (xs := #[]) (n := 0) (Heap.get?_push_size _ rfl) rfl ?_)
  rw [if_neg (by simp)]
  refine wpAny_bind (listUpdate_at (xs := #[]) (n := 0) (Heap.get?_push_size _ rfl) rfl ?_ (Nat.zero_le _) (by show (#[] ++ vs.toArray).size ≤ sizeLine + 1; simp only [Array.size_append, List.size_toArray, List.length_nil]; omega))
  refine wpAny_pure ?_
  show wpAny (model prog w) A (do
      let o ← load s.heap.objs.size
      match o.data with
      | .seq xs _ => pure xs.toList
      | _ => unsupported "internal:collect") Q E { s with heap := (s.heap.push (seqObj "list" #[] 0)).update s.heap.objs.size (Obj.mapSeq (· ++ vs.toArray)) }
  refine wpAny_bind (wpAny_load (get?_update_seq (Heap.get?_push_size _ rfl) _) ?_)
  show wpAny _ _ (pure ((#[] : Array Value) ++ vs.toArray).toList) Q E _
  rw [show ((#[] : Array Value) ++ vs.toArray).toList = vs by simp]
  exact wpAny_pure h
theorem sorted_of_sq {l : Addr} {vs : List Value} {kw : List (Str × Value)} {Q : Value → Shared → Prop} (hl : IsSq s.heap l vs.toArray) (hL : vs.length ≤ sizeLine) (ha1 : argsOk "sorted" ⟨[.ref l], kw⟩) (ha2 : ∀ x, argsOk "list.sort" ⟨[.ref x], kw⟩)
    (body : ∀ E' : Value → Shared → Prop, wpAny (model prog w) A.in1.in1 (Builtin.«list.sort» ⟨[.ref (s.heap.objs.size + 1)], kw⟩) (fun f s' => f = .done (.ret .none) ∧ Q (.ref (s.heap.objs.size + 1)) s') E' { s with heap := PySem.W.copyHeap s.heap vs }) :
    wpAny (model prog w) A (call (.builtin "sorted") [.ref l] kw) Q E s := by
  refine call_function_entry_kw kind_sorted plain_sorted entry_sorted ha1 ?_
  unfold Builtin.«sorted»
  refine wpAny_bind (m := checkCount "sorted" 1 1 _) (wpAny_pure ?_)
  refine wpAny_bind (collect_sq hl ?_ hL)
  refine wpAny_bind (wpAny_newList ?_ hL)
  have hsz : ((s.heap.push (seqObj "list" #[] 0)).update s.heap.objs.size (Obj.mapSeq (· ++ vs.toArray))).objs.size = s.heap.objs.size + 1 := by
    rw [Heap.size_update, size_push']
  show wpAny _ _ _ _ _ { s with heap := PySem.W.copyHeap s.heap vs }
  rw [hsz]
  refine wpAny_bind (wpAny_holding (wpAny_call_entry_kw slot_list_sort ⟨_, PySem.W.copyHeap_at s.heap vs, rfl⟩ entry_list_sort ?body (ha2 _)))
  case body =>
    show wpAny (model prog w) A.in1.in1 (Builtin.«list.sort» ⟨[.ref (s.heap.objs.size + 1)], kw⟩) _ _ _
    refine wpAny_mono (body _) (fun f s' hf => ?_) fun _ _ e => e
    obtain ⟨rfl, hq⟩ := hf
    exact ⟨_, rfl, wpAny_pure ⟨_, rfl, hq⟩⟩
end
/-! ### what calls leave as it was: frames may get other slots -/
def KpF (fs : List Addr) (h h' : Heap) : Prop := ∀ b o, h.get? b = some o → (b ∉ fs → h'.get? b = some o) ∧ ∃ sl, h'.get? b = some { o with slots := sl }
/-- all but what lies at a -/
def KpB (fs : List Addr) (a : Addr) (h h' : Heap) : Prop := ∀ b o, b ≠ a → h.get? b = some o → (b ∉ fs → h'.get? b = some o) ∧ ∃ sl, h'.get? b = some { o with slots := sl }
theorem KpB.trans {fs : List Addr} {a : Addr} {h h1 h2 : Heap} (k : KpB fs a h h1) (k' : KpF fs h1 h2) : KpB fs a h h2 := fun b o hb e => by
  obtain ⟨q1, sl, q2⟩ := k b o hb e
  exact ⟨fun hf => (k' b o (q1 hf)).1 hf, (k' b _ q2).2⟩
/-- .. and then with one object other -/
theorem KpB.same {fs : List Addr} {a c : Addr} {h h1 h2 : Heap} (k : KpB fs a h h1) (hs : Heap.SameBut c h1 h2) (hc : c = a ∨ h.get? c = none) : KpB fs a h h2 := fun b o hb e => by
  have hbc : b ≠ c := by
    rintro rfl
    rcases hc with z | z
    · exact hb z
    · rw [z] at e
      cases e
  obtain ⟨q1, sl, q2⟩ := k b o hb e
  exact ⟨fun hf => (hs.2 b hbc).trans (q1 hf), sl, (hs.2 b hbc).trans q2⟩
mutual
theorem reads_kp {h h' : Heap} (k : ∀ b o, h.get? b = some o → o.cls = .type "tuple" → ∃ o', h'.get? b = some o' ∧ o'.cls = o.cls ∧ o'.data = o.data) : ∀ (d : PyData) (v : Value) (as : List Addr), as = [] → Reads h v d as → Reads h' v d []
  | .none, _, _, _, r => by cases r; exact .none
  | .bool b, _, _, _, r => by cases r; exact .bool b
  | .int i, _, _, _, r => by cases r; exact .int i _
  | .str x, _, _, _, r => by cases r; exact .str x _
  | .tuple ds, _, _, e, r => by
    cases r with
    | tuple ho hc hd hr =>
      obtain ⟨o', h1, h2, h3⟩ := k _ _ ho hc
      exact .tuple h1 (h2.trans hc) (h3.trans hd) (readsAll_kp k ds _ _ e hr)
  | .list _, _, _, e, r => by
    cases r with
    | list => cases e
  | .dict _, _, _, e, r => by
    cases r with
    | dict => cases e
theorem readsAll_kp {h h' : Heap} (k : ∀ b o, h.get? b = some o → o.cls = .type "tuple" → ∃ o', h'.get? b = some o' ∧ o'.cls = o.cls ∧ o'.data = o.data) : ∀ (ds : List PyData) (vs : List Value) (as : List Addr), as = [] → ReadsAll h vs ds as → ReadsAll h' vs ds []
  | [], _, _, _, r => by cases r; exact .nil
  | d :: ds, _, _, e, r => by
    cases r with
    | cons r1 r2 =>
      obtain ⟨e1, e2⟩ := List.append_eq_nil_iff.mp e
      exact .cons (as := []) (bs := []) (reads_kp k d _ _ e1 r1) (readsAll_kp k ds _ _ e2 r2)
end

/-! ### the loop over the items -/
/-- a call for a key -/
def KeyF (fs : List Addr) (k : PyData) (s1 : Shared) (u : Value) (s2 : Shared) : Prop := s2.os = s1.os ∧ AllBare s2.gens ∧ KpF fs s1.heap s2.heap ∧ Reads s2.heap u k []
structure KSt (fs : List Addr) (s0 : Shared) (a kS : Addr) (e1 : Nat) (ks : List PyData) (s : Shared) : Prop where
  os : s.os = s0.os
  bare : AllBare s.gens
  kp : KpB fs a s0.heap s.heap
  na : s.heap.get? a = some (seqObj "list" #[] e1)
  keys : ∃ kA e, s.heap.get? kS = some (seqObj "list" kA e) ∧ PySem.W.EachIs (fun v k => Reads s.heap v k []) kA.toList ks
section
variable {prog : Program} {w : World} {A : Around} {E : Value → Shared → Prop} {fs : List Addr} {a kS : Addr} {vs : List Value} {kz : List PyData} {f : Value} {e1 : Nat} {s s0 : Shared} {P : PySem.Fin → Shared → Prop}
theorem each_snoc2 {α β : Type} {R : α → β → Prop} : ∀ {l : List α} {r : List β} {a : α} {b : β}, R a b → PySem.W.EachIs R l r → PySem.W.EachIs R (l ++ [a]) (r ++ [b])
  | _, _, _, _, h, .nil => .cons h .nil
  | _, _, _, _, h, .cons x y => .cons x (each_snoc2 h y)
theorem srtK_rest (h0 : s0.heap.get? kS = none) (hka : kS ≠ a) (hkf : kS ∉ fs) (haf : a ∉ fs) (S0 : KSt fs s0 a kS e1 [] s) (hlen : kz.length = vs.length) (hZ : vs.length ≤ sizeLine) (hal : PySem.W.AllAlike kz) (hsk : PySem.W.Sortable kz) (hu : ∀ d, d ∈ kz → A.units + d.depth < cLine)
    (turn : ∀ (i : Nat) (v : Value) (k : PyData), vs[i]? = some v → kz[i]? = some k → ∀ s', s'.os = s0.os → AllBare s'.gens → KpB fs a s0.heap s'.heap → wpAny (model prog w) A (call f [v]) (KeyF fs k s') (fun _ _ => False) s')
    (h : ∀ s' out c, s'.os = s0.os → AllBare s'.gens → KpB fs a s0.heap s'.heap → s'.heap.get? a = some (seqObj "list" (List.toArray out) c) → PySem.W.KeyedOut false kz vs out → P (.done (.ret .none)) s') :
    wpAny (model prog w) A (ksk_rest a f false vs.toArray e1 (.ref kS)) P E s := by
  unfold ksk_rest
  refine wpAny_bind (wpAny_rule ?_)
  first
    | rw [List.forIn_toArray]
    | (rw [← Array.forIn_toList]; simp only [List.toList_toArray])
    | rw [← Array.forIn_toList]
  refine wpAny_bind (ksk_fold (fun i s' => KSt fs s0 a kS e1 (kz.take i) s') vs 0 s (by rw [List.take_zero]; exact S0) ?step ?done)
  case step =>
    intro j x s' hx T
    simp only [Nat.zero_add] at T ⊢
    have hj : j < vs.length := (List.getElem?_eq_some_iff.mp hx).1
    obtain ⟨k, hkj⟩ : ∃ k, kz[j]? = some k := ⟨_, List.getElem?_eq_getElem (by omega)⟩
    obtain ⟨kA, e, nk, hk⟩ := T.keys
    have hz : kA.size ≤ vs.length := by
      have h1 := hk.length
      rw [Array.length_toList, List.length_take] at h1
      omega
    refine wpAny_bind (wpAny_attempt (wpAny_mono (turn j x k hx hkj s' T.os T.bare T.kp) (fun v s'' he => ?_) fun _ _ hF => hF.elim))
    obtain ⟨o2, g2, k2, r2⟩ := he
    try dsimp only
    have nk2 : s''.heap.get? kS = some (seqObj "list" kA e) := (k2 _ _ nk).1 hkf
    have na2 : s''.heap.get? a = some (seqObj "list" #[] e1) := (k2 _ _ T.na).1 haf
    have s1 := Heap.SameBut.update s''.heap kS (Obj.mapSeq (·.push v))
    obtain ⟨c2, hc2⟩ : ∃ c2, (s''.heap.update kS (Obj.mapSeq (·.push v))).get? kS = some (seqObj "list" (kA.push v) c2) := ⟨_, get?_update_seq nk2 (·.push v)⟩
    have ek : kz.take (j + 1) = kz.take j ++ [k] := by rw [List.take_add_one, hkj]; simp
    have ea : (kA.push v).toList = kA.toList ++ [v] := by simp
    have tk1 : ∀ b o, s''.heap.get? b = some o → o.cls = .type "tuple" → ∃ o', (s''.heap.update kS (Obj.mapSeq (·.push v))).get? b = some o' ∧ o'.cls = o.cls ∧ o'.data = o.data := fun b o q hc => by
      by_cases hb : b = kS
      · rw [hb, nk2] at q
        cases q
        exact absurd hc (by show ¬ (Value.type "list" = .type "tuple"); intro z; injection z with z; exact absurd z (by decide))
      · exact ⟨o, (s1.2 b hb).trans q, rfl, rfl⟩
    have tk0 : ∀ b o, s'.heap.get? b = some o → o.cls = .type "tuple" → ∃ o', s''.heap.get? b = some o' ∧ o'.cls = o.cls ∧ o'.data = o.data := fun b o q _ => by
      obtain ⟨sl, z⟩ := (k2 b o q).2
      exact ⟨_, z, rfl, rfl⟩
    refine wpAny_bind (listUpdate_at nk2 rfl ?_ (Nat.le_trans hz hZ) (Nat.le_trans (Nat.le_of_eq (Array.size_push ..)) (Nat.succ_le_succ (Nat.le_trans hz hZ))))
    refine wpAny_pure ⟨rfl, ⟨o2.trans T.os, g2, (T.kp.trans k2).same s1 (.inr h0), (s1.2 a hka.symm).trans na2, kA.push v, c2, hc2, ?_⟩⟩
    rw [ea, ek]
    exact each_snoc2 (reads_kp tk1 _ _ _ rfl r2) (hk.mono fun u d q => reads_kp tk1 _ _ _ rfl (reads_kp tk0 _ _ _ rfl q))
  case done =>
    intro s' T
    obtain ⟨kA, e, nk, hk⟩ := T.keys
    have hk' : PySem.W.EachIs (fun v k => ∃ as, Reads s'.heap v k as) kA.toList kz := by
      have e3 : kz.take (0 + vs.length) = kz := List.take_of_length_le (by omega)
      rw [e3] at hk
      exact hk.mono fun v k q => ⟨[], q⟩
    have hsz : kA.size = vs.length := by
      have h1 := hk'.length
      rw [Array.length_toList] at h1
      omega
    try dsimp only
    refine wpAny_bind (listItems_at nk rfl ?_)
    obtain ⟨G, g1, g2⟩ := L2.restrict s'.heap fun b => decide (b ≠ kS)
    have gk : ∀ b, b ≠ kS → G.get? b = s'.heap.get? b := fun b hb => g1 b (decide_eq_true hb)
    have gn : G.get? kS = none := g2 kS (decide_eq_false fun z => z rfl)
    have kG : PySem.W.KeepsBut a G s'.heap := fun b o _ q => by
      have hb : b ≠ kS := by
        rintro rfl
        rw [gn] at q
        cases q
      rw [← gk b hb]
      exact q
    refine PySem.W.keyH_end (κ := PySem.W.dataKind s'.heap kz) (h₁ := G) kG gn nk T.na hka (PySem.W.SortsAt.data (s := s') hk' hal hsk hu) hsz hZ fun h3 tk3 c k3 n3 => h _ _ c T.os T.bare (fun b o hb q => ?_) n3 ⟨s'.heap, kA.toList, hal, rfl, hk'⟩
    have hbk : b ≠ kS := by
      rintro rfl
      rw [h0] at q
      cases q
    obtain ⟨q1, sl, q2⟩ := T.kp b o hb q
    exact ⟨fun hf => k3 b o hb ((gk b hbk).trans (q1 hf)), sl, k3 b _ hb ((gk b hbk).trans q2)⟩
theorem srtK_tree {n : Nat} (ho : s.heap.get? a = some (seqObj "list" vs.toArray n)) (hfs : ∀ b ∈ fs, b < s.heap.objs.size ∧ b ≠ a) (hb : AllBare s.gens) (hlen : kz.length = vs.length) (hZ : vs.length ≤ sizeLine) (hal : PySem.W.AllAlike kz) (hsk : PySem.W.Sortable kz) (hu : ∀ d, d ∈ kz → A.units + d.depth < cLine)
    (turn : ∀ (i : Nat) (v : Value) (k : PyData), vs[i]? = some v → kz[i]? = some k → ∀ s', s'.os = s.os → AllBare s'.gens → KpB fs a s.heap s'.heap → wpAny (model prog w) A (call f [v]) (KeyF fs k s') (fun _ _ => False) s')
    (h : ∀ s' out c, s'.os = s.os → AllBare s'.gens → KpB fs a s.heap s'.heap → s'.heap.get? a = some (seqObj "list" (List.toArray out) c) → PySem.W.KeyedOut false kz vs out → P (.done (.ret .none)) s') :
    wpAny (model prog w) A (ksk_tree a f false) P E s := by
  have ha : a < s.heap.objs.size := Heap.lt_size ho
  obtain ⟨e1, ho1⟩ : ∃ e1, (s.heap.update a (Obj.mapSeq fun _ => (#[] : Array Value))).get? a = some (seqObj "list" #[] e1) := ⟨_, get?_update_seq ho fun _ => #[]⟩
  have hkS : ((s.heap.update a (Obj.mapSeq fun _ => (#[] : Array Value))).push (seqObj "tuple" vs.toArray 0)).objs.size = s.heap.objs.size + 1 := by rw [size_push', Heap.size_update]
  unfold ksk_tree
  refine wpAny_bind (listItems_at ho rfl ?_)
  refine wpAny_bind (listUpdate_at ho rfl ?_ (by rw [List.size_toArray]; exact hZ) (Nat.zero_le _))
  refine wpAny_bind (seqEpoch_at ho1 rfl ?_)
  refine wpAny_bind (wpAny_newTuple ?_ (by show vs.length ≤ _; exact hZ))
  refine wpAny_bind (wpAny_newList ?_ (Nat.zero_le _))
  refine wpAny_holding ?_
  refine srtK_rest (fs := fs) (kz := kz) (s0 := s) (kS := ((s.heap.update a (Obj.mapSeq fun _ => (#[] : Array Value))).push (seqObj "tuple" vs.toArray 0)).objs.size)
    (Heap.get?_none_of_le (by rw [hkS]; exact Nat.le_succ _)) (by rw [hkS]; exact Nat.ne_of_gt (Nat.lt_succ_of_lt ha)) (fun z => ?_) (fun z => (hfs a z).2 rfl) ⟨rfl, hb, fun b o hb q => ?_, ?_, #[], 0, ?_, .nil⟩ hlen hZ hal hsk hu turn h
  · exact absurd (show s.heap.objs.size + 1 < s.heap.objs.size from hkS ▸ (hfs _ z).1) (Nat.not_lt.mpr (Nat.le_succ _))
  · have z := PySem.W.sortingHeap_old (vs := vs) hb q
    exact ⟨fun _ => z, o.slots, z⟩
  · exact Heap.get?_push_of_some _ (Heap.get?_push_of_some _ ho1)
  · exact Heap.get?_push_size _ rfl
/-- sorted(xs, key=f) -/
theorem srtK_sorted {l q : Addr} {Q : Value → Shared → Prop} (hl : IsSq s.heap l vs.toArray) (hf : f = .ref q) (hfs : ∀ b ∈ fs, b < s.heap.objs.size) (hb : AllBare s.gens) (hlen : kz.length = vs.length) (hZ : vs.length ≤ sizeLine) (hal : PySem.W.AllAlike kz) (hsk : PySem.W.Sortable kz) (hu : ∀ d, d ∈ kz → A.units + 2 + d.depth < cLine)
    (turn : ∀ (i : Nat) (v : Value) (k : PyData), vs[i]? = some v → kz[i]? = some k → ∀ s', s'.os = s.os → AllBare s'.gens → KpF fs s.heap s'.heap → wpAny (model prog w) A.in1.in1 (call f [v]) (KeyF fs k s') (fun _ _ => False) s')
    (h : ∀ s' out c, s'.os = s.os → AllBare s'.gens → KpF fs s.heap s'.heap → s'.heap.get? (s.heap.objs.size + 1) = some (seqObj "list" (List.toArray out) c) → PySem.W.KeyedOut false kz vs out → Q (.ref (s.heap.objs.size + 1)) s') :
    wpAny (model prog w) A (call (.builtin "sorted") [.ref l] [(Str.ofString "key", f)]) Q E s := by
  subst hf
  have hsz : (PySem.W.copyHeap s.heap vs).objs.size = s.heap.objs.size + 2 := by
    show ((Heap.push _ _).update _ _ |>.push _).objs.size = _
    rw [size_push', Heap.size_update, size_push']
  have up : ∀ {g : Heap}, KpB fs (s.heap.objs.size + 1) (PySem.W.copyHeap s.heap vs) g → KpF fs s.heap g := fun {g} kp b o q =>
    kp b o (Nat.ne_of_lt (Nat.lt_succ_of_lt (Heap.lt_size q))) (PySem.W.copyHeap_old q)
  refine sorted_of_sq hl hZ (ksk_s1 _ _) (fun x => ksk_l1 _ _) fun E' => ?_
  rw [ksk_t1]
  refine srtK_tree (fs := fs) (kz := kz) (s := { s with heap := PySem.W.copyHeap s.heap vs }) (PySem.W.copyHeap_at s.heap vs) (fun b hb => ?_) hb hlen hZ hal hsk (fun d hd => hu d hd) (fun i v k h1 h2 s' o g kp => turn i v k h1 h2 s' o g (up kp)) fun s' out c o g kp hD ko => ⟨rfl, h s' out c o g (up kp) hD ko⟩
  have := hfs b hb
  exact ⟨Nat.lt_of_lt_of_le this (by show _ ≤ (PySem.W.copyHeap s.heap vs).objs.size; rw [hsz]; exact Nat.le_add_right _ 2), Nat.ne_of_lt (Nat.lt_succ_of_lt this)⟩
end

/-! ### the heap, sealed -/
def sealH (H : Hp) (h : Heap) : Hp := fun a => match H a with
  | some (.tup xs) => (h.get? a).map fun o => .frz o (.tup xs)
  | some (.frz o (.tup xs)) => some (.frz o (.tup xs))
  | _ => none
section
variable {P : Program} {w : World} {H : Hp} {h h' : Heap} {a : Addr} {xs : List V}
theorem seal_tup (hok : HOk P w H h) (r : Rd H a (.tup xs)) : ∃ o, sealH H h a = some (.frz o (.tup xs)) := by
  rcases r with r | ⟨o, r⟩
  · obtain ⟨_, its, _, o, ho, _⟩ := hok a _ r
    exact ⟨o, by unfold sealH; rw [r]; show (h.get? a).map _ = _; rw [ho]; rfl⟩
  · exact ⟨o, by unfold sealH; rw [r]⟩
theorem seal_inv (hok : HOk P w H h) {u : HO} (e : sealH H h a = some u) : ∃ o xs, u = .frz o (.tup xs) ∧ Rd H a (.tup xs) ∧ h.get? a = some o := by
  unfold sealH at e
  split at e
  · rename_i xs q
    obtain ⟨o, ho, rfl⟩ := Option.map_eq_some_iff.mp e
    exact ⟨o, xs, rfl, .inl q, ho⟩
  · rename_i o xs q
    cases e
    exact ⟨o, xs, rfl, .inr ⟨o, q⟩, (hok a _ q).1⟩
  · cases e
theorem seal_none (e : H a = none) : sealH H h a = none := by
  unfold sealH
  rw [e]
theorem rd_ne {u : HO} (r : Rd H a u) : H a ≠ none := by
  rcases r with r | ⟨o, r⟩ <;> (rw [r]; exact fun z => nomatch z)
theorem seal_hok (hok : HOk P w H h) (k : ∀ b o, H b ≠ none → h.get? b = some o → h'.get? b = some o) : HOk P w (sealH H h) h' := fun b u e => by
  obtain ⟨o, xs, rfl, r, ho⟩ := seal_inv hok e
  obtain ⟨z, its, rv, t⟩ := r.ok hok
  obtain ⟨o', h1, h2⟩ := t
  exact ⟨k b o (rd_ne r) ho, z, its, rv, o', k b o' (rd_ne r) h1, h2⟩
end
mutual
theorem rp_seal {P : Program} {w : World} {K : Fg} {H : Hp} {m : List Addr} {h : Heap} (hok : HOk P w H h) : ∀ (d : PyData) (v : V), noL d = true → Rp K H m v d → Rp K (sealH H h) [] v d
  | .none, _, _, r => by cases r; exact .non
  | .bool b, _, _, r => by cases r; exact .bl b
  | .int i, _, _, r => by cases r; exact .int i
  | .str x, _, _, r => by
    cases r with
    | str _ ok => exact .str x ok
  | .tuple ds, _, p, r => by
    cases r with
    | tup t q =>
      refine .tup ?_ (rpl_seal hok ds _ (by simpa [noL] using p) q)
      rcases t with ⟨t, _⟩ | t
      · obtain ⟨o, e⟩ := seal_tup hok t
        exact .inl ⟨.inr ⟨o, e⟩, fun z => nomatch z⟩
      · exact .inr t
  | .list _, _, p, _ => nomatch p
  | .dict _, _, p, _ => nomatch p
theorem rpl_seal {P : Program} {w : World} {K : Fg} {H : Hp} {m : List Addr} {h : Heap} (hok : HOk P w H h) : ∀ (ds : List PyData) (vs : List V), noLs ds = true → RpL K H m vs ds → RpL K (sealH H h) [] vs ds
  | [], _, _, r => by cases r; exact .nil
  | d :: ds, _, p, r => by
    have p' : noL d = true ∧ noLs ds = true := by simpa [noLs] using p
    cases r with
    | cons a b => exact .cons (rp_seal hok d _ p'.1 a) (rpl_seal hok ds _ p'.2 b)
end
mutual
theorem rp_reads {P : Program} {w : World} {K : Fg} {H : Hp} {m : List Addr} {h : Heap} (hok : HOk P w H h) (kin : K.K.In h) : ∀ (d : PyData) (v : V) (u : Value), noL d = true → Rp K H m v d → RelV v u → Reads h u d []
  | .none, _, _, _, r, rv => by cases r; cases rv; exact .none
  | .bool b, _, _, _, r, rv => by cases r; cases rv; exact .bool b
  | .int i, _, _, _, r, rv => by
    cases r
    obtain ⟨t, rfl⟩ := rv
    exact .int i t
  | .str x, _, _, _, r, rv => by
    cases r
    obtain ⟨t, rfl⟩ := rv
    exact .str x t
  | .tuple ds, _, _, p, r, rv => by
    cases r with
    | tup t q =>
      cases rv
      have p' : noLs ds = true := by simpa [noL] using p
      rcases t with ⟨t, _⟩ | ⟨o, its, n, h1, h2, _, h3, _, h5⟩
      · obtain ⟨_, its, rv, o, ho, hc, n, hd⟩ := t.ok hok
        exact .tuple ho hc hd (rpl_reads hok kin ds _ its p' q rv)
      · exact .tuple (kin _ _ h1) h2 h3 (rpl_reads hok kin ds _ _ p' q h5)
  | .list _, _, _, p, _, _ => nomatch p
  | .dict _, _, _, p, _, _ => nomatch p
theorem rpl_reads {P : Program} {w : World} {K : Fg} {H : Hp} {m : List Addr} {h : Heap} (hok : HOk P w H h) (kin : K.K.In h) : ∀ (ds : List PyData) (vs : List V) (us : List Value), noLs ds = true → RpL K H m vs ds → Vals vs us → ReadsAll h us ds []
  | [], _, _, _, r, rv => by cases r; cases rv; exact .nil
  | d :: ds, _, _, p, r, rv => by
    have p' : noL d = true ∧ noLs ds = true := by simpa [noLs] using p
    cases r with
    | cons a b =>
      cases rv with
      | cons ra rb => exact .cons (as := []) (bs := []) (rp_reads hok kin d _ _ p'.1 a ra) (rpl_reads hok kin ds _ _ p'.2 b rb)
end
end L2.Pv

set_option Elab.async false
set_option linter.all false
set_option maxRecDepth 100000
/-! sorted(xs, key=f): what it gives, and that the model does so -/
namespace L2.Pv
open PySem PySem.Spec PyProof.Rows L2
/-- what f gives of each -/
def keysG (g : GL) : List PyData → Option (List PyData)
  | [] => some []
  | d :: r => match g [.d d] [] with
    | .ok (.d k) _ => (keysG g r).map (k :: ·)
    | _ => none
/-- the items of a list or a tuple -/
def sqDs (S : Sto) (v : Vl) : Option (List PyData) := match sqOf S v with
  | some (.l ds) => some ds
  | some (.t ds) => some ds
  | none => none
theorem sq_ds {K : Fx} {ρ : Pl} {S : Sto} {H : Hp} (h : StR K ρ S H) {v : Vl} {x : V} {ds : List PyData} (hv : Vr K H ρ x v) (e : sqDs S v = some ds) : ∃ a xs, x = .ref a ∧ (SqL K.K H a xs ∨ SqT K.K H a xs) ∧ RpL K H ρ.m xs ds := by
  unfold sqDs at e
  split at e
  · rename_i e2
    cases e
    obtain ⟨a, xs, h1, h2, h3⟩ := sq_l h hv e2
    exact ⟨a, xs, h1, .inl h2, h3⟩
  · rename_i e2
    cases e
    obtain ⟨_, a, xs, h1, h2, h3⟩ := sq_t hv e2
    exact ⟨a, xs, h1, .inr h2, h3⟩
  · cases e
def gSortK (g : GL) : G1 := fun a S => match sqDs S a with
  | some ds => match keysG g ds with
    | some ks => if (sortB ks && noLs ks && noLs ds) = true then .ok (.d (.list (((ds.zip ks).mergeSort fun x y => leD x.2 y.2).map (·.1)))) S else .bad
    | none => .bad
  | _ => .bad
theorem nx_sortK {g : GL} : NX1 (gSortK g) := by
  intro a S
  unfold gSortK
  split
  · split
    · split <;> trivial
    · trivial
  · trivial
theorem keysG_get {g : GL} : ∀ {ds ks : List PyData}, keysG g ds = some ks → ks.length = ds.length ∧ ∀ (p : PyData × PyData), p ∈ ds.zip ks → ∃ S', g [.d p.1] [] = .ok (.d p.2) S'
  | [], ks, h => by
    cases h
    exact ⟨rfl, fun p hp => nomatch hp⟩
  | d :: r, ks, h => by
    unfold keysG at h
    split at h
    · rename_i k S' e
      obtain ⟨ks', h1, rfl⟩ := Option.map_eq_some_iff.mp h
      obtain ⟨l, q⟩ := keysG_get h1
      refine ⟨by rw [List.length_cons, List.length_cons, l], fun p hp => ?_⟩
      rw [List.zip_cons_cons] at hp
      rcases List.mem_cons.mp hp with rfl | hp
      · exact ⟨S', e⟩
      · exact q p hp
    · cases h
theorem funs_kp {fs : List Addr} {h h' base : Heap} {l : List PySem.Env} (hl : h.FunFrames base l) (k : KpF fs h h') : h'.FunFrames base l := hl.of_keeps fun b o ho _ => by
  obtain ⟨sl, z⟩ := (k b o ho).2
  exact ⟨_, z, rfl⟩
theorem cxn_never {P : Program} {w : World} {outer : List PySem.Env} {H : Hp} {s s' : Shared} {e : Value} (h : L2N.CX P w outer H s (fun _ _ _ => False) e s') : False := by
  obtain ⟨_, _, _, _, _, _, _, _, _, _, _, _, z⟩ := h
  exact z
theorem un_kp {P : Program} {w : World} {fs : List Addr} {H H' : Hp} {h h' : Heap} (un : Un fs [] H H' h h') (hok : HOk P w H h) (hok' : HOk P w H' h') (hs : ∀ b u, H b = some u → ∃ o v, u = .frz o v) : KpF fs h h' := fun b o q => by
  cases e : H b with
  | none =>
    refine ⟨fun hb => un.keep b o q e hb (fun z => nomatch z), ?_⟩
    by_cases hb : b ∈ fs
    · exact un.slot b o q e hb (fun z => nomatch z)
    · exact ⟨o.slots, un.keep b o q e hb (fun z => nomatch z)⟩
  | some u =>
    obtain ⟨ob, v, rfl⟩ := hs b u e
    have h1 : h.get? b = some ob := (hok b _ e).1
    have h2 : h'.get? b = some ob := (hok' b _ (un.frzs b ob v e)).1
    rw [q] at h1
    cases h1
    exact ⟨fun _ => h2, o.slots, h2⟩
theorem cd_sortK {X : Cx} {k : Nat} {f : Addr} {fd : FuncData} {ps : List Str} {g : GL} (hh : HotOk false X (k + 1)) (F : FnX false X.prog X.w X.K X.mg X.base k f fd ps 1 g) (hb : Binds X.K fd ps []) (hu : X.A.units + 64 < cLine)
    {pins : List (Addr × Obj)} {s : Shared} {σ : L2.St} {H : Hp} {xs : List V} {us : List Value} {Q : VK} (I : Inv X pins σ H s) (rx : Vals xs us) (h : rDL X.F (arg1 (gSortK g)) xs H Q) :
    wpAny (model X.prog X.w) X.A (call (.builtin "sorted") us [(Str.ofString "key", .ref f)]) (EP X pins σ Q) X.xe s := by
  obtain ⟨x, ρ, S, va, r, S', rfl, hS, ha, hg, hc⟩ := rDL1 h
  have hcalm := (hh.cool rfl).1
  have hF := F_calm hcalm
  unfold gSortK at hg
  split at hg
  · rename_i ds e
    split at hg
    · rename_i ks hks
      split at hg
      · rename_i hbb
        cases hg
        simp only [Bool.and_eq_true] at hbb
        obtain ⟨⟨hb1, hb2⟩, hb3⟩ := hbb
        obtain ⟨a, zs, rfl, h2, h3⟩ := sq_ds hS ha e
        obtain ⟨u, rfl, ru⟩ := vals1 rx
        cases ru
        obtain ⟨k1, k2, k3, k4, _⟩ := sort_keys hb1
        obtain ⟨hkl, hkg⟩ := keysG_get hks
        obtain ⟨its, rv, hl, hz⟩ : ∃ its : List Value, Vals zs its ∧ IsSq s.heap a its.toArray ∧ zs.length ≤ sizeLine := by
          rcases h2 with h2 | h2
          · obtain ⟨its, rv, hl, hz⟩ := I.list h2
            exact ⟨its, rv, .ofL hl.isList, hz⟩
          · obtain ⟨its, rv, hl, hz⟩ := I.tuple h2
            exact ⟨its, rv, .ofT hl, hz⟩
        have hlen := h3.length
        have hlen2 := rv.length
        have F' : FnOk X.prog X.w X.K X.mg X.base (L2N.CX X.prog X.w) k f fd ps (SpD ⟨⟨X.K, X.w⟩, X.mg, none⟩ 1 g) := F
        -- the items: what stands for them, what they show
        have rel : ∀ (i : Nat) (v : Value) (d : PyData), its[i]? = some v → ds[i]? = some d → ∃ z, RelV z v ∧ Rp X.F H ρ.m z d := by
          have gen : ∀ (zs : List V) (ds : List PyData) (its : List Value), Vals zs its → RpL X.F H ρ.m zs ds → ∀ (i : Nat) (v : Value) (d : PyData), its[i]? = some v → ds[i]? = some d → ∃ z, RelV z v ∧ Rp X.F H ρ.m z d := by
            intro zs
            induction zs with
            | nil => intro ds its hv hr i v d h1 h2; cases hv; simp at h1
            | cons z zs ih =>
              intro ds its hv hr i v d h1 h2
              cases hv with
              | cons p q =>
                cases hr with
                | cons p' q' =>
                  cases i with
                  | zero =>
                    simp at h1 h2
                    subst h1
                    subst h2
                    exact ⟨z, p, p'⟩
                  | succ i => exact ih _ _ q q' i v d (by simpa using h1) (by simpa using h2)
          exact gen zs ds its rv h3
        have fsl : ∀ b ∈ frs X.stack, b < s.heap.objs.size := fun b hb => by
          obtain ⟨_, o, ho, _⟩ := I.stack.mem hb
          exact Heap.lt_size ho
        have lenk : ks.length = its.length := by omega
        refine srtK_sorted (fs := frs X.stack) (kz := ks) hl rfl fsl I.bare lenk (by rw [← lenk, ← SZ_eq]; exact k4) k1 k2 (fun d hd => ?_) (fun i v kd h1 h2' s' ho hg' kp => ?_) fun s' out c ho hg' kp hD ko => ?_
        · have := k3 d hd
          show X.A.units + 2 + d.depth < cLine
          omega
        · -- a call
          have hi : i < ds.length := by
            have := (List.getElem?_eq_some_iff.mp h2').1
            omega
          obtain ⟨z, hz1, hz2⟩ := rel i v ds[i] h1 (List.getElem?_eq_getElem hi)
          obtain ⟨S1, hgk⟩ := hkg (ds[i], kd) (List.mem_of_getElem? (i := i) (by rw [List.getElem?_zip_eq_some]; exact ⟨List.getElem?_eq_getElem hi, h2'⟩))
          have hok2 : HOk X.prog X.w (sealH H s.heap) s'.heap := seal_hok I.hok fun b o hn q => (kp b o q).1 fun hbf => hn (I.stkFree b hbf)
          have hk2 : ∀ b o, X.base.get? b = some o → s'.heap.get? b = some o ∧ sealH H s.heap b = none := fun b o q => by
            have hnf : b ∉ frs X.stack := fun hbf => by
              have := (I.stack.mem hbf).1
              rw [q] at this
              cases this
            exact ⟨(kp b o (I.bs b o q).1).1 hnf, seal_none (I.bs b o q).2⟩
          have e0 := I.env0
          have E1 : Env0 X.prog X.w X.K X.mg X.base X.A.in1.in1 X.stack s' (sealH H s.heap) := by
            refine ⟨e0.frames, e0.mod, hk2, ?_, funs_kp e0.funs kp, fun b hbf => seal_none (I.stkFree b hbf), hok2, hg'⟩
            obtain ⟨m, ⟨o, es, ep, ho', _⟩, _⟩ := id I.loc
            obtain ⟨sl, hz'⟩ := (kp _ _ ho').2
            exact Nat.le_trans I.ok.bsz (Nat.le_trans I.ok.above (Nat.le_of_lt (Heap.lt_size hz')))
          have room : Room k X.A.in1.in1 := by
            have r := hh.room
            exact ⟨(hh.cool rfl).2, by have := r.dp; show X.A.depth + 3 * k + 5 < _; omega, by have := r.un; show X.A.units + 1 + 1 + 16 * k + 200 < _; omega⟩
          have kin : X.K.In s'.heap := e0.mod.kin.keeps fun b o q => (hk2 b o q).1
          have hlp : ([v] : List Value).length = ps.length := by
            have := F'.len [z] (sealH H s.heap) (fun x H' => ∃ m, Rp X.F H' m x kd) (fun _ _ _ => False) ?_
            · simpa using this
            · refine ⟨rfl, ⟨[], []⟩, [], [.d ds[i]], ⟨List.nodup_nil, (fun a h => by cases h), (fun a h => by cases h), .nil⟩, .cons (rp_seal I.hok _ _ (noLs_mem hb3 _ (List.getElem_mem hi)) (hF ▸ hz2)) .nil, ?_⟩
              rw [hgk]
              exact fun ρ' H' x _ _ hx => ⟨ρ'.m, hF ▸ hx⟩
          refine wpAny_call (codeAny_mono (F'.run X.A.in1.in1 X.stack s' (sealH H s.heap) ⟨[v], []⟩ [v] [z] (fun x H' => ∃ m, Rp X.F H' m x kd) (fun _ _ _ => False) room E1 (hb s' [v] kin hlp) (.cons hz1 .nil) ?_) fun r s'' hq => ?_)
          · refine ⟨rfl, ⟨[], []⟩, [], [.d ds[i]], ⟨List.nodup_nil, (fun a h => by cases h), (fun a h => by cases h), .nil⟩, .cons (rp_seal I.hok _ _ (noLs_mem hb3 _ (List.getElem_mem hi)) (hF ▸ hz2)) .nil, ?_⟩
            rw [hgk]
            exact fun ρ' H' x _ _ hx => ⟨ρ'.m, hF ▸ hx⟩
          · cases r with
            | error ex => exact cxn_never hq
            | ok fl =>
              cases fl with
              | ret u =>
                obtain ⟨x, H', os, bare, un, hok', rv', m', hx⟩ := hq
                have kf := un_kp un hok2 hok' fun b u e => by
                  obtain ⟨o, xs, rfl, _⟩ := seal_inv I.hok e
                  exact ⟨o, _, rfl⟩
                have kin2 : X.K.In s''.heap := e0.mod.kin.keeps fun b o q => by
                  have hnf : b ∉ frs X.stack := fun hbf => by
                    have := (I.stack.mem hbf).1
                    rw [q] at this
                    cases this
                  exact (kf b o (hk2 b o q).1).1 hnf
                exact ⟨os, bare, kf, rp_reads hok' kin2 kd x u (noLs_mem hb2 kd (List.mem_of_getElem? h2')) hx rv'⟩
              | next => exact False.elim hq
              | brk => exact False.elim hq
              | cont => exact False.elim hq
        · -- what comes out
          let bs : List (V × PyData × PyData) := zs.zip (ds.zip ks)
          have hbs : bs.map (·.2) = ds.zip ks := by
            rw [List.map_snd_zip]
            rw [List.length_zip]
            omega
          have hbk : bs.map (fun b => b.2.2) = ks := by
            have : bs.map (fun b => b.2.2) = (bs.map (·.2)).map (·.2) := by rw [List.map_map]; rfl
            rw [this, hbs, List.map_snd_zip]
            omega
          have relE : PySem.W.EachIs (fun (v : Value) (b : V × PyData × PyData) => RelV b.1 v ∧ Rp X.F H ρ.m b.1 b.2.1) its bs := by
            have gen : ∀ (zs : List V) (ds ks : List PyData) (its : List Value), ks.length = ds.length → Vals zs its → RpL X.F H ρ.m zs ds → PySem.W.EachIs (fun (v : Value) (b : V × PyData × PyData) => RelV b.1 v ∧ Rp X.F H ρ.m b.1 b.2.1) its (zs.zip (ds.zip ks)) := by
              intro zs
              induction zs with
              | nil => intro ds ks its _ hv hr; cases hv; cases hr; exact .nil
              | cons z zs ih =>
                intro ds ks its hl hv hr
                cases hv with
                | cons a b =>
                  cases hr with
                  | cons c d =>
                    cases ks with
                    | nil => cases hl
                    | cons k0 kr => exact .cons ⟨a, c⟩ (ih _ _ _ (by simpa using hl) b d)
            exact gen zs ds ks its hkl rv h3
          have hout := PySem.W.keyedOut_each (fun b : V × PyData × PyData => b.2.2) (by rw [hbk]; exact ko) relE
          have hm : ((bs.mergeSort (PySem.W.dataLe false fun b => b.2.2)).map (·.2)) = (ds.zip ks).mergeSort fun x y => leD x.2 y.2 := by
            rw [← hbs]
            exact List.map_mergeSort fun a _ b _ => by rw [PySem.W.dataLe_eq]; rfl
          have hv : Vals ((bs.mergeSort (PySem.W.dataLe false fun b => b.2.2)).map (·.1)) out := by
            have gen : ∀ {out : List Value} {bs : List (V × PyData × PyData)}, PySem.W.EachIs (fun (v : Value) (b : V × PyData × PyData) => RelV b.1 v ∧ Rp X.F H ρ.m b.1 b.2.1) out bs → Vals (bs.map (·.1)) out := by
              intro out bs h
              induction h with
              | nil => exact .nil
              | cons a b ih => exact .cons a.1 ih
            exact gen hout
          have hr : RpL X.F H ρ.m ((bs.mergeSort (PySem.W.dataLe false fun b => b.2.2)).map (·.1)) (((ds.zip ks).mergeSort fun x y => leD x.2 y.2).map (·.1)) := by
            rw [← hm]
            have gen : ∀ {out : List Value} {bs : List (V × PyData × PyData)}, PySem.W.EachIs (fun (v : Value) (b : V × PyData × PyData) => RelV b.1 v ∧ Rp X.F H ρ.m b.1 b.2.1) out bs → RpL X.F H ρ.m (bs.map (·.1)) ((bs.map (·.2)).map (·.1)) := by
              intro out bs h
              induction h with
              | nil => exact .nil
              | cons a b ih => exact .cons a.2 ih
            exact gen hout
          have hD0 : H (s.heap.objs.size + 1) = none := I.hok.fresh (Nat.le_succ _)
          have hlo : ((bs.mergeSort (PySem.W.dataLe false fun b => b.2.2)).map (·.1)).length ≤ sizeLine := by
            rw [hr.length, List.length_map, List.length_mergeSort, List.length_zip, ← SZ_eq]
            omega
          have keepT : ∀ b o, H b ≠ none → s.heap.get? b = some o → s'.heap.get? b = some o := fun b o hn q => (kp b o q).1 fun hbf => hn (I.stkFree b hbf)
          have hok3 : HOk X.prog X.w (upd H (s.heap.objs.size + 1) (.lst ((bs.mergeSort (PySem.W.dataLe false fun b => b.2.2)).map (·.1)))) s'.heap := fun b u e => by
            by_cases hb : b = s.heap.objs.size + 1
            · subst hb
              rw [upd_same] at e
              cases e
              exact ⟨hlo, out, c, hv, hD⟩
            · rw [upd_ne hb] at e
              have nd : ∀ c, H c ≠ none → c ≠ s.heap.objs.size + 1 := fun c hc z => hc (z ▸ hD0)
              refine (I.hok b u e).stay (fun c v hc q => keepT c v (hc.elim (fun z => by rw [z, e]; exact fun z => nomatch z) fun z => by rw [z]; exact fun z => nomatch z) q) (fun c q => ?_) fun c xs q => ?_
              · rw [upd_ne (nd c (by rw [q]; exact fun z => nomatch z))]
                exact q
              · rw [upd_ne (nd c (by rw [q]; exact fun z => nomatch z))]
                exact q
          have un3 : Un (frs X.stack) [] H (upd H (s.heap.objs.size + 1) (.lst ((bs.mergeSort (PySem.W.dataLe false fun b => b.2.2)).map (·.1)))) s.heap s'.heap := by
            have nd : ∀ c, H c ≠ none → c ≠ s.heap.objs.size + 1 := fun c hc z => hc (z ▸ hD0)
            refine ⟨fun b o q _ hb _ => (kp b o q).1 hb, fun b o q _ _ _ => (kp b o q).2, fun b o q n _ => ?_, fun b o q _ => ?_, fun b xs q => ?_, fun b o u q => ?_, fun b ps q => ⟨#[], ?_⟩⟩
            · rw [upd_ne (Nat.ne_of_lt (Nat.lt_succ_of_lt (Heap.lt_size q)))]
              exact n
            · obtain ⟨sl, z⟩ := (kp b o q).2
              exact ⟨_, z⟩
            · rw [upd_ne (nd b (by rw [q]; exact fun z => nomatch z))]
              exact q
            · rw [upd_ne (nd b (by rw [q]; exact fun z => nomatch z))]
              exact q
            · rw [upd_ne (nd b (by rw [q]; exact fun z => nomatch z)), Array.append_empty]
              exact q
          exact ⟨.ref _, _, I.call' (ch := []) ho un3 hok3 hg' (fun b z => nomatch z), rfl, fin_lst hS hr hc _ hD0⟩
      · cases hg
    · cases hg
  · cases hg
theorem le_sortK {X : Cx} {W : WX} {k : Nat} {f : Addr} {fd : FuncData} {ps : List Str} {g : GL} {x y : Str} {p p2 pos kp : Pos} {a : Expr} {fa : SE} (hh : HotOk false X (k + 1)) (F : FnX false X.prog X.w X.K X.mg X.base k f fd ps 1 g) (hb : Binds X.K fd ps []) (hu : X.A.units + 64 < cLine)
    (hg : Gl X x) (hm : X.mg x = none) (hv : bootBuiltins x = some (.builtin "sorted")) (hn : x ≠ "__name__") (hdb : (x == ("__debug__" : Str)) = false) (hgy : Gl X y) (hmy : X.mg y = some (.ref f)) (hdy : (y == ("__debug__" : Str)) = false) (ha : PE X a (LE X.F W fa))
    (hs : starEach [a] X.env = (false, eval a X.env) :: starEach [] X.env) (hpl : (backTo pos (starEach [a] X.env)).any (·.1) = false) :
    PE X (.Call (.Name x p) [a] [⟨some "key", .Name y p2, kp⟩] pos) (LE X.F W (sCall (arg1 (gSortK g)) [fa])) := by
  have hc : CallRK X (.builtin "sorted") [Str.ofString "key"] (fun vs zs H Q => zs = [.ref f] ∧ rDL X.F (arg1 (gSortK g)) vs H Q) := by
    intro pins s σ H xs zs us ws Q I rx rz h
    obtain ⟨rfl, h⟩ := h
    obtain ⟨w1, rfl, e1⟩ := vals1 rz
    obtain rfl : w1 = Value.ref f := e1
    exact cd_sortK hh F hb hu I rx h
  refine (pe_callBK hc hg hm hv (la_cons ha la_nil hs) (pk_cons (pe_glob (v := .ref f) hgy hmy rfl hdy) pk_nil) hn hdb (by rw [hs]; rfl) hpl rfl rfl rfl).weak fun σ H Q hq => ?_
  exact le_args (nx_arg1 nx_sortK) (RR := fun xs H1 Q => [V.ref f] = [V.ref f] ∧ rDL X.F (arg1 (gSortK g)) xs H1 Q) (fun _ _ _ q => ⟨rfl, q⟩) hq
end L2.Pv

set_option Elab.async false
set_option linter.all false
set_option maxRecDepth 100000
/-! dicts of lists of its own: d.setdefault(k, []).append(x), tuple(reversed(d.get(k, []))); the keys are tuples -/
namespace L2.Pv
open PySem PySem.Spec PyProof.Rows L2
def dclOf (S : Sto) (n : Nat) : Option Kvs := match S[n]? with
  | some (.dcl kds) => some kds
  | _ => none
theorem dclOf_ok {S : Sto} {n : Nat} {kds : Kvs} (h : dclOf S n = some kds) : S[n]? = some (.dcl kds) := by
  unfold dclOf at h
  split at h
  · rename_i e; cases h; exact e
  · cases h
def jOf (kds : Kvs) (kd : PyData) : Nat := kds.findIdx fun p => keq p.1 kd
def putJ (kds : Kvs) (kd : PyData) : Kvs := if jOf kds kd < kds.length then kds else kds ++ [(kd, .list [])]
section
variable {K : Fg} {H H' : Hp} {m m' : List Addr}
theorem OwD.len : ∀ {es : List DictEntry} {l : List Addr} {kds : Kvs}, OwD K H m es l kds → es.length = kds.length ∧ l.length = kds.length
  | _, _, _, .nil => ⟨rfl, rfl⟩
  | _, _, _, .cons _ _ _ _ _ _ _ _ t => ⟨congrArg (· + 1) t.len.1, congrArg (· + 1) t.len.2⟩
theorem OwD.at : ∀ {es : List DictEntry} {l : List Addr} {kds : Kvs} {j : Nat} {b : Addr}, OwD K H m es l kds → l[j]? = some b → ∃ kd ds xs, kds[j]? = some (kd, .list ds) ∧ b ∈ m ∧ H b = some (.lst xs) ∧ RpL K H m xs ds
  | _, _, _, _, _, .nil, e => by simp at e
  | _, _, _, 0, _, .cons _ _ _ _ _ h1 h2 h3 _, e => by
    simp at e
    subst e
    exact ⟨_, _, _, rfl, h1, h2, h3⟩
  | _, _, _, j + 1, _, .cons _ _ _ _ _ _ _ _ t, e => by
    obtain ⟨kd, ds, xs, q, r⟩ := t.at (j := j) (by simpa using e)
    exact ⟨kd, ds, xs, by simpa using q, r⟩
theorem OwD.put (c : Cov m H m' H') (hm : ∀ b ∈ m, b ∈ m') {b : Addr} {ys : List V} {ds : List PyData} (hb : H' b = some (.lst ys)) (hne : ∀ x, x ≠ b → H x ≠ none → H' x = H x) (hy : RpL K H' m' ys ds) : ∀ {es : List DictEntry} {l : List Addr} {kds : Kvs} {j : Nat} {kd dd : PyData}, OwD K H m es l kds → l.Nodup → l[j]? = some b → kds[j]? = some (kd, dd) → OwD K H' m' es l (kds.set j (kd, .list ds))
  | _, _, _, _, _, _, .nil, _, e, _ => by simp at e
  | _, _, _, 0, _, _, .cons g1 g2 g3 g4 g5 h1 h2 h3 t, nd, e, ek => by
    simp at e ek
    obtain ⟨rfl, rfl⟩ := ek
    subst e
    rw [List.nodup_cons] at nd
    have own : ∀ {es : List DictEntry} {l : List Addr} {kds : Kvs}, OwD K H m es l kds → ∀ x ∈ l, H x ≠ none := by
      intro es l kds h
      induction h with
      | nil => intro x hx; cases hx
      | cons _ _ _ _ _ _ h2 _ _ ih =>
        intro x hx
        rcases List.mem_cons.mp hx with rfl | hx
        · rw [h2]; exact fun z => nomatch z
        · exact ih x hx
    exact .cons g1 g2 g3 (Rp.cov c _ _ g4) g5 (hm _ h1) hb hy (t.cov c (fun x hx => hne x (fun z => nd.1 (z ▸ hx)) (own t x hx)) fun x _ hx => hm x hx)
  | _, _, _, j + 1, _, _, .cons g1 g2 g3 g4 g5 h1 h2 h3 t, nd, e, ek => by
    rw [List.nodup_cons] at nd
    have e' := (show _ from e)
    simp at e ek
    have hbm := List.mem_of_getElem? e
    exact .cons g1 g2 g3 (Rp.cov c _ _ g4) g5 (hm _ h1) ((hne _ (fun z => nd.1 (by rw [z]; exact hbm)) (by rw [h2]; exact fun z => nomatch z)).trans h2) (RpL.cov c _ _ h3) (OwD.put c hm hb hne hy t nd.2 e ek)
theorem OwD.snoc {e : DictEntry} {b : Addr} {xs : List V} {ds : List PyData} {kd : PyData} {k : NestedKey} {x : V} (g1 : nkOf kd = some k) (g2 : e.hash = k.hash K.w) (g3 : RelV x e.key) (g4 : Rp K H m x kd) (g5 : e.val = .ref b) (h1 : b ∈ m) (h2 : H b = some (.lst xs)) (h3 : RpL K H m xs ds) : ∀ {es : List DictEntry} {l : List Addr} {kds : Kvs}, OwD K H m es l kds → OwD K H m (es ++ [e]) (l ++ [b]) (kds ++ [(kd, .list ds)])
  | _, _, _, .nil => .cons g1 g2 g3 g4 g5 h1 h2 h3 .nil
  | _, _, _, .cons a1 a2 a3 a4 a5 a6 a7 a8 t => .cons a1 a2 a3 a4 a5 a6 a7 a8 (OwD.snoc g1 g2 g3 g4 g5 h1 h2 h3 t)
/-- the entries, the keys being tuples -/
inductive XO (K : Fg) (H : Hp) (m : List Addr) : Kvs → List Addr → List (NestedKey × Addr × Value) → Prop
  | nil : XO K H m [] [] []
  | cons {kd vd : PyData} {k : NestedKey} {c b : Addr} {kds : Kvs} {l : List Addr} {xs : List (NestedKey × Addr × Value)} : nkOf kd = some k → Rp K H m (.ref c) kd → XO K H m kds l xs → XO K H m ((kd, vd) :: kds) (b :: l) ((k, c, .ref b) :: xs)
theorem xo_of {P : Program} : ∀ {kds : Kvs} {es : List DictEntry} {l : List Addr}, OwD K H m es l kds → (∀ p ∈ kds, isTupD p.1 = true) → ∃ xs, XO K H m kds l xs ∧ es = xs.map (entryOfKey (nestedKind P K.w))
  | _, _, _, .nil, _ => ⟨[], .nil, rfl⟩
  | _, _, _, .cons (e := e) (b := b) (kd := kd) (k := k) (x := x) g1 g2 g3 g4 g5 h1 h2 h3 t, ht => by
    obtain ⟨xs, q1, q2⟩ := xo_of (P := P) t fun p hp => ht p (List.mem_cons_of_mem _ hp)
    have h0 : isTupD kd = true := ht _ List.mem_cons_self
    cases kd with
    | tuple ds =>
      cases g4 with
      | @tup c ys _ ta qa =>
        refine ⟨(k, c, .ref b) :: xs, .cons g1 (.tup ta qa) q1, ?_⟩
        rw [List.map_cons, ← q2]
        congr 1
        have p' : e.key = Value.ref c := g3
        cases e
        simp only at p' g2 g5
        rw [p', g2, g5]
        rfl
    | _ => cases h0
theorem xo_look {k : NestedKey} {kd : PyData} (e : nkOf kd = some k) : ∀ {kds : Kvs} {l : List Addr} {xs : List (NestedKey × Addr × Value)}, XO K H m kds l xs → (atKey xs k = none ∧ kds.any (fun p => keq p.1 kd) = false ∧ jOf kds kd = kds.length) ∨ ∃ b q, l[jOf kds kd]? = some b ∧ jOf kds kd < kds.length ∧ atKey xs k = some q ∧ q.2 = .ref b
  | _, _, _, .nil => .inl ⟨rfl, rfl, rfl⟩
  | _, _, _, .cons (kd := kd') (vd := vd) (k := k') (c := c) (b := b) (kds := kds) (l := l) (xs := xs) h1 h2 t => by
    have hk : keq kd' kd = decide (k' = k) := by
      unfold keq
      rw [h1, e]
      by_cases z : k' = k
      · rw [z, decide_eq_true rfl, decide_eq_true rfl]
      · rw [decide_eq_false z, decide_eq_false fun y => z (Option.some.inj y)]
    have hj : jOf ((kd', vd) :: kds) kd = if decide (k' = k) = true then 0 else jOf kds kd + 1 := by
      unfold jOf
      rw [List.findIdx_cons, show keq (kd', vd).1 kd = decide (k' = k) from hk]
      cases decide (k' = k) <;> rfl
    rw [hj]
    by_cases z : k' = k
    · rw [decide_eq_true z, if_pos rfl]
      refine .inr ⟨b, (c, .ref b), rfl, Nat.succ_pos _, ?_, rfl⟩
      unfold atKey
      rw [List.find?_cons, decide_eq_true z]
      rfl
    · rw [decide_eq_false z, if_neg Bool.false_ne_true]
      rcases xo_look e t with ⟨q1, q2, q3⟩ | ⟨b', q, q1, q2, q3, q4⟩
      · refine .inl ⟨?_, ?_, congrArg (· + 1) q3⟩
        · unfold atKey at q1 ⊢
          rw [List.find?_cons, decide_eq_false z]
          exact q1
        · rw [List.any_cons, show keq (kd', vd).1 kd = decide (k' = k) from hk, decide_eq_false z, Bool.false_or]
          exact q2
      · refine .inr ⟨b', q, by simpa using q1, Nat.succ_lt_succ q2, ?_, q4⟩
        unfold atKey at q3 ⊢
        rw [List.find?_cons, decide_eq_false z]
        exact q3
theorem xo_nodup {kds : Kvs} {l : List Addr} {xs : List (NestedKey × Addr × Value)} (h : XO K H m kds l xs) (n : (kds.map fun p => nkOf p.1).Nodup) : (xs.map (·.1)).Nodup := by
  have e : kds.map (fun p => nkOf p.1) = (xs.map (·.1)).map some := by
    clear n
    induction h with
    | nil => rfl
    | cons hq _ t ih => rw [List.map_cons, List.map_cons, List.map_cons, hq, ih]
  rw [e] at n
  exact nodup_of n
end
section
variable {X : Cx} {pins : List (Addr × Obj)} {σ : L2.St} {H : Hp} {s : Shared} {m : List Addr} {a : Addr} {kds : Kvs} {kd : PyData} {es : List DictEntry} {ep : Nat} {x : V} {u : Value} {l : List Addr}
theorem xo_in (I : Inv X pins σ H s) {kds : Kvs} {l : List Addr} {xs : List (NestedKey × Addr × Value)} (h : XO X.F H m kds l xs) (hk : ∀ p ∈ kds, keyB p.1 = true) : ∀ x ∈ xs, (nestedKind X.prog X.w).is s.heap x.1 x.2.1 := by
  induction h with
  | nil => exact fun x hx => nomatch hx
  | @cons kd vd k c b kds l xs h1 h2 t ih =>
    intro x hx
    rcases List.mem_cons.mp hx with rfl | hx
    · refine ⟨key_nested I h2 rfl h1, ?_⟩
      rcases keyB_cases (hk _ List.mem_cons_self) with ⟨_, k2, e⟩ | ⟨_, k2, e, hd⟩
      · revert e h1
        cases kd <;> intro h1 e <;> cases e <;> cases h1 <;> exact Nat.zero_le _
      · have e : nkOf kd = some k2 := e
        rw [h1] at e
        cases e
        exact hd
    · exact ih (fun p hp => hk p (List.mem_cons_of_mem _ hp)) x hx
theorem dcl_H (I : Inv X pins σ H s) (ok : KvsOk kds) (ht : ∀ p ∈ kds, isTupD p.1 = true) (h : H a = some (dO a es ep)) (r : OwD X.F H m es l kds) : ∃ xs, XO X.F H m kds l xs ∧ s.heap.DictOfH (nestedKind X.prog X.w) a xs ∧ xs.length ≤ sizeLine ∧ es = xs.map (entryOfKey (nestedKind X.prog X.w)) := by
  obtain ⟨xs, h1, h2⟩ := xo_of (P := X.prog) r ht
  obtain ⟨h3, h4, o, h5, h6, h7⟩ := dO_in I h
  refine ⟨xs, h1, ⟨o, es.toArray, ep, h5, h6, h7, ?_, xo_in I h1 ok.key, xo_nodup h1 ok.nd⟩, ?_, h2⟩
  · simpa using h2
  · rw [h2, List.length_map] at h4
    exact h4
/-- d.setdefault(k, new): what it gives -/
def rSetL (K : Fg) : V → List V → Hp → VK → Prop := fun x xs H Q => ∃ a es ep l kds m kv kd b0, x = .ref a ∧ xs = [kv, .ref b0] ∧ H a = some (dO a es ep) ∧ KvsOk kds ∧ OwD K H m es l kds ∧ kindB kds kd = true ∧ isTupD kd = true ∧ kds.length < SZ ∧ Rp K H m kv kd ∧
  (∀ b, jOf kds kd < kds.length → l[jOf kds kd]? = some b → Q (.ref b) H) ∧
  (kds.any (fun p => keq p.1 kd) = false → jOf kds kd = kds.length → ∀ k ep' e, nkOf kd = some k → e.hash = k.hash K.w → RelV kv e.key → e.val = .ref b0 → Q (.ref b0) (upd H a (dO a (es ++ [e]) ep')))
def rGetL (K : Fg) : V → List V → Hp → VK → Prop := fun x xs H Q => ∃ a es ep l kds m kv kd b0, x = .ref a ∧ xs = [kv, .ref b0] ∧ H a = some (dO a es ep) ∧ KvsOk kds ∧ OwD K H m es l kds ∧ kindB kds kd = true ∧ isTupD kd = true ∧ Rp K H m kv kd ∧
  (∀ b, jOf kds kd < kds.length → l[jOf kds kd]? = some b → Q (.ref b) H) ∧ (jOf kds kd = kds.length → Q (.ref b0) H)
theorem tup_all (ok : KvsOk kds) (hk : kindB kds kd = true) (ht : isTupD kd = true) : keyB kd = true ∧ ∀ p ∈ kds, isTupD p.1 = true := by
  obtain ⟨h1, h2⟩ := kind_of ok hk
  rcases h2 with ⟨_, h2⟩ | ⟨h2, _⟩
  · exact ⟨h1, h2⟩
  · rw [ht] at h2; cases h2
theorem mt_setL (hu : X.A.units + 64 < cLine) : MtR X "dict.setdefault" (rSetL X.F) := by
  intro pins s σ H x xs v us Q I rx rxs ⟨a, es, ep, l, kds, m, kv, kd, b0, ex, exs, ha, ok, ow, hk, ht, hlt, hkv, q1, q2⟩
  subst ex exs
  obtain rfl : v = .ref a := rx
  obtain ⟨u1, us1, rfl, r1, r2⟩ : ∃ u1 us1, us = u1 :: us1 ∧ RelV kv u1 ∧ Vals [.ref b0] us1 := by
    cases rxs with
    | cons a b => exact ⟨_, _, rfl, a, b⟩
  obtain ⟨u2, rfl, r3⟩ := r2.one
  obtain rfl : u2 = .ref b0 := r3
  obtain ⟨k1, k2⟩ := tup_all ok hk ht
  obtain ⟨b, k, rfl, rfl, e2, his⟩ := tup_key I ht k1 hkv r1
  obtain ⟨zs, h1, h2, h3, h4⟩ := dcl_H I ok k2 ha ow
  obtain ⟨hd, _, o0, ho0, hx0, hd0⟩ := dO_in I ha
  have mu : Mut (H a) := by rw [ha]; exact True.intro
  refine call_setdefault_heap (hsz := h3) (by show X.A.in1.units + 8 < cLine; rw [Around.in1_units]; omega) his hd h2 (fun p hp => ?_) fun hn h' dd' hs => ?_
  · rcases xo_look e2 h1 with ⟨y1, _⟩ | ⟨c, q, y1, y2, y3, y4⟩
    · rw [hp] at y1; cases y1
    · rw [hp] at y3
      cases y3
      exact ⟨.ref c, H, I.tok _, y4, q1 c y2 y1⟩
  · rcases xo_look e2 h1 with ⟨y1, y2, y3⟩ | ⟨c, q, _, _, y3, _⟩
    · obtain ⟨o, es', ep', z1, z2, z3, z4, _, _⟩ := dd'
      rw [storedH_new hn, List.map_append, ← h4] at z4
      have hlen : es.length = kds.length := ow.len.1
      have e3 : es'.toList = es ++ [entryOfKey (nestedKind X.prog X.w) (k, b, .ref b0)] := z4
      refine ⟨.ref b0, upd H a (dO a (es ++ [entryOfKey (nestedKind X.prog X.w) (k, b, .ref b0)]) ep'), d_write I mu hs ⟨o, z1⟩ (dO_ok hd ?_ z1 z2 ?_), rfl, q2 y2 y3 k ep' _ e2 rfl rfl rfl⟩
      · rw [List.length_append, List.length_singleton, hlen]
        rw [← SZ_eq]
        exact hlt
      · rw [← e3, Array.toArray_toList]
        exact z3
    · rw [hn] at y3; cases y3
theorem mt_getL (hu : X.A.units + 64 < cLine) : MtR X "dict.get" (rGetL X.F) := by
  intro pins s σ H x xs v us Q I rx rxs ⟨a, es, ep, l, kds, m, kv, kd, b0, ex, exs, ha, ok, ow, hk, ht, hkv, q1, q2⟩
  subst ex exs
  obtain rfl : v = .ref a := rx
  obtain ⟨u1, us1, rfl, r1, r2⟩ : ∃ u1 us1, us = u1 :: us1 ∧ RelV kv u1 ∧ Vals [.ref b0] us1 := by
    cases rxs with
    | cons a b => exact ⟨_, _, rfl, a, b⟩
  obtain ⟨u2, rfl, r3⟩ := r2.one
  obtain rfl : u2 = .ref b0 := r3
  obtain ⟨k1, k2⟩ := tup_all ok hk ht
  obtain ⟨b, k, rfl, rfl, e2, his⟩ := tup_key I ht k1 hkv r1
  obtain ⟨zs, h1, h2, h3, h4⟩ := dcl_H I ok k2 ha ow
  obtain ⟨hd, _, o0, ho0, hx0, hd0⟩ := dO_in I ha
  refine call_meetsIn PySem.F.slot_dict_get h2.typeIs PySem.F.entry_dict_get (PySem.F.args_dict_get_3 _ _ _) (meetsH_dict_get_default (nestedKind X.prog X.w) a b hd (.ref b0)) ⟨by show X.A.in1.units + 8 < cLine; rw [Around.in1_units]; omega, k, zs, his, h2, ?_⟩
  rcases xo_look e2 h1 with ⟨y1, y2, y3⟩ | ⟨c, q, y1, y2, y3, y4⟩
  · rw [y1]
    exact ⟨.ref b0, H, I.tok _, rfl, q2 y3⟩
  · rw [y3]
    exact ⟨.ref c, H, I.tok _, y4, q1 c y2 y1⟩
end
end L2.Pv

set_option Elab.async false
set_option linter.all false
set_option maxRecDepth 100000
namespace L2.Pv
open PySem PySem.Spec PyProof.Rows L2
section
variable {K : Fg} {H H' : Hp} {ρ ρ' : Pl} {S S' : Sto}
theorem own_nd : ∀ {s : List (Addr × List Addr)} {n : Nat} {a : Addr} {l : List Addr}, (ownS s).Nodup → s[n]? = some (a, l) → (a :: l).Nodup
  | [], _, _, _, _, e => by simp at e
  | r :: s, n, a, l, nd, e => by
    have nd' : (r.1 :: r.2 ++ ownS s).Nodup := nd
    rw [List.nodup_append] at nd'
    cases n with
    | zero =>
      simp at e
      subst e
      exact nd'.1
    | succ n => exact own_nd nd'.2.1 (by simpa using e)
theorem set_sl {n : Nat} {p : Addr × List Addr} {s : List (Addr × List Addr)} (h : s[n]? = some p) : s.set n p = s := by
  apply List.ext_getElem?
  intro i
  by_cases hi : n = i
  · subst hi
    rw [List.getElem?_set_self (List.getElem?_eq_some_iff.mp h).1, h]
  · rw [List.getElem?_set_ne hi]
/-- a list of a slot's own is written anew -/
theorem StR.putIn (h : StR K ρ S H) {n : Nat} {a b : Addr} {l : List Addr} {o : HO} {p : Ob} (el : ρ.sl[n]? = some (a, l)) (hbl : b ∈ l) (hbm : b ∈ ρ.m) (q : Cov ρ.m H ρ.m (upd H b o) → ObR K (upd H b o) ρ.m a l p) :
    StR K ρ (S.set n p) (upd H b o) ∧ Ext ρ H ρ (upd H b o) := by
  have hc : Cov ρ.m H ρ.m (upd H b o) := ⟨fun c u hb hn => by rw [upd_ne (fun z => hn (by rw [z]; exact hbm))]; exact hb, fun _ _ _ n => n⟩
  have htr : ∀ c, H c ≠ none → upd H b o c ≠ none := fun c hb => by
    by_cases z : c = b
    · subst z; rw [upd_same]; exact fun z => by cases z
    · rw [upd_ne z]; exact hb
  have hbo : b ∈ ρ.own := own_at el (List.mem_cons_of_mem _ hbl)
  refine ⟨⟨h.nd, fun c hb => htr c (h.tk c hb), fun c hb => htr c (h.tka c hb), ?_⟩, ⟨fun _ _ _ h => sl_same h, fun _ h => .inl h, fun c u hb hn => ?_, fun _ _ _ h => h, fun _ h n => ⟨h, n⟩, htr⟩⟩
  · have := pairedPut (G := fun p o' => ObR K (upd H b o) ρ.m p.1 p.2 o') (p' := (a, l)) (o := p) h.all el (q hc) fun j r u ej hj z => z.cov hc (fun c hb => upd_ne fun y => hj (own_apart h.nd ej el hb (by rw [y]; exact List.mem_cons_of_mem _ hbl))) fun c hb y => y
    rwa [set_sl el] at this
  · rw [upd_ne fun z => ?_]
    · exact hb
    · subst z
      rcases hn with hn | hn
      · exact hn hbo
      · exact hn hbm
theorem own_grow : ∀ {s : List (Addr × List Addr)} {n : Nat} {a : Addr} {l : List Addr} {b : Addr}, s[n]? = some (a, l) → ∀ c, c ∈ ownS (s.set n (a, l ++ [b])) ↔ c ∈ ownS s ∨ c = b
  | [], _, _, _, _, e, _ => by simp at e
  | r :: s, 0, a, l, b, e, c => by
    simp at e
    subst e
    show c ∈ (a :: (l ++ [b])) ++ ownS s ↔ c ∈ (a :: l) ++ ownS s ∨ c = b
    simp only [List.mem_append, List.mem_cons, List.mem_nil_iff, or_false]
    constructor
    · rintro ((z | z | z) | z)
      · exact .inl (.inl (.inl z))
      · exact .inl (.inl (.inr z))
      · exact .inr z
      · exact .inl (.inr z)
    · rintro (((z | z) | z) | z)
      · exact .inl (.inl z)
      · exact .inl (.inr (.inl z))
      · exact .inr z
      · exact .inl (.inr (.inr z))
  | r :: s, n + 1, a, l, b, e, c => by
    have ih := own_grow (s := s) (n := n) (b := b) (by simpa using e) c
    show c ∈ (r.1 :: r.2) ++ ownS (s.set n (a, l ++ [b])) ↔ c ∈ (r.1 :: r.2) ++ ownS s ∨ c = b
    rw [List.mem_append, List.mem_append, ih, or_assoc]
theorem own_growNd : ∀ {s : List (Addr × List Addr)} {n : Nat} {a : Addr} {l : List Addr} {b : Addr}, s[n]? = some (a, l) → (ownS s).Nodup → b ∉ ownS s → (ownS (s.set n (a, l ++ [b]))).Nodup
  | [], _, _, _, _, e, _, _ => by simp at e
  | r :: s, 0, a, l, b, e, nd, hb => by
    simp at e
    subst e
    have nd' : ((a :: l) ++ ownS s).Nodup := nd
    have hb' : b ∉ (a :: l) ++ ownS s := hb
    rw [List.nodup_append] at nd'
    show ((a :: (l ++ [b])) ++ ownS s).Nodup
    rw [List.nodup_append]
    have e2 : a :: (l ++ [b]) = (a :: l) ++ [b] := rfl
    refine ⟨?_, nd'.2.1, fun x hx y hy z => ?_⟩
    · rw [e2, List.nodup_append]
      refine ⟨nd'.1, by simp, fun x hx y hy z => hb' (List.mem_append_left _ ?_)⟩
      rw [← List.mem_singleton.mp hy, ← z]
      exact hx
    · rw [e2] at hx
      rcases List.mem_append.mp hx with hx | hx
      · exact nd'.2.2 x hx y hy z
      · refine hb' (List.mem_append_right _ ?_)
        rw [← List.mem_singleton.mp hx, z]
        exact hy
  | r :: s, n + 1, a, l, b, e, nd, hb => by
    have nd' : ((r.1 :: r.2) ++ ownS s).Nodup := nd
    have hb' : b ∉ (r.1 :: r.2) ++ ownS s := hb
    rw [List.nodup_append] at nd'
    have e' : s[n]? = some (a, l) := by simpa using e
    show ((r.1 :: r.2) ++ ownS (s.set n (a, l ++ [b]))).Nodup
    rw [List.nodup_append]
    refine ⟨nd'.1, own_growNd e' nd'.2.1 fun z => hb' (List.mem_append_right _ z), fun x hx y hy z => ?_⟩
    rcases (own_grow e' y).mp hy with hy | hy
    · exact nd'.2.2 x hx y hy z
    · subst hy
      subst z
      exact hb' (List.mem_append_left _ hx)
/-- a slot gets one more list of its own -/
theorem StR.growIn (h : StR K ρ S H) {n : Nat} {a b : Addr} {l : List Addr} {o1 o2 : HO} {p : Ob} (el : ρ.sl[n]? = some (a, l)) (ham : a ∈ ρ.m) (hb : H b = none)
    (q : Cov ρ.m H (ρ.m ++ [b]) (upd (upd H b o1) a o2) → ObR K (upd (upd H b o1) a o2) (ρ.m ++ [b]) a (l ++ [b]) p) :
    StR K ⟨ρ.sl.set n (a, l ++ [b]), ρ.m ++ [b]⟩ (S.set n p) (upd (upd H b o1) a o2) ∧ Ext ρ H ⟨ρ.sl.set n (a, l ++ [b]), ρ.m ++ [b]⟩ (upd (upd H b o1) a o2) := by
  have hnm := h.notin hb
  have hna := h.notad hb
  have hao : a ∈ ρ.own := own_at el List.mem_cons_self
  have hab : a ≠ b := fun z => hna (z ▸ hao)
  have same : ∀ c, c ≠ a → H c ≠ none → upd (upd H b o1) a o2 c = H c := fun c z hc => by
    rw [upd_ne z, upd_ne fun y => hc (by rw [y]; exact hb)]
  have hc : Cov ρ.m H (ρ.m ++ [b]) (upd (upd H b o1) a o2) := ⟨fun c u hcu hn => by
    rw [same c (fun z => hn (z ▸ ham)) (by rw [hcu]; exact fun z => nomatch z)]
    exact hcu, fun c u hcu hn hm => by
    rcases List.mem_append.mp hm with hm | hm
    · exact hn hm
    · rw [List.mem_singleton.mp hm, hb] at hcu
      cases hcu⟩
  have htr : ∀ c, H c ≠ none → upd (upd H b o1) a o2 c ≠ none := fun c hc => by
    by_cases z : c = a
    · subst z; rw [upd_same]; exact fun z => nomatch z
    · rw [same c z hc]; exact hc
  have hbn : upd (upd H b o1) a o2 b ≠ none := by
    rw [upd_ne hab.symm, upd_same]
    exact fun z => nomatch z
  have og : ∀ c, c ∈ Pl.own ⟨ρ.sl.set n (a, l ++ [b]), ρ.m ++ [b]⟩ ↔ c ∈ ρ.own ∨ c = b := own_grow el
  refine ⟨⟨own_growNd el h.nd hna, fun c hcm => ?_, fun c hco => ?_, ?_⟩, ⟨fun i a' l' hi => ?_, fun c hco => ?_, fun c u hcu hn => ?_, hc.out, fun c hcm hco => ⟨List.mem_append_left _ hcm, fun z => ?_⟩, htr⟩⟩
  · rcases List.mem_append.mp hcm with hcm | hcm
    · exact htr c (h.tk c hcm)
    · rw [List.mem_singleton.mp hcm]; exact hbn
  · rcases (og c).mp hco with hco | hco
    · exact htr c (h.tka c hco)
    · rw [hco]; exact hbn
  · refine pairedPut (G := fun p o' => ObR K (upd (upd H b o1) a o2) (ρ.m ++ [b]) p.1 p.2 o') (p' := (a, l ++ [b])) (o := p) h.all el (q hc) fun j r u ej hj z => z.cov hc (fun c hcr => ?_) fun c hcr y => List.mem_append_left _ y
    exact same c (fun y => hj (own_apart h.nd ej el hcr (by rw [y]; exact List.mem_cons_self))) (h.tka c (own_of (List.mem_of_getElem? ej) hcr))
  · by_cases z : i = n
    · subst z
      rw [el] at hi
      cases hi
      refine ⟨[b], ?_⟩
      show (ρ.sl.set i (a, l ++ [b]))[i]? = _
      rw [List.getElem?_set_self (List.getElem?_eq_some_iff.mp el).1]
    · refine ⟨[], ?_⟩
      show (ρ.sl.set n (a, l ++ [b]))[i]? = _
      rw [List.getElem?_set_ne fun y => z y.symm, hi, List.append_nil]
  · rcases (og c).mp hco with hco | hco
    · exact .inl hco
    · rw [hco]; exact .inr hb
  · rw [same c (fun z => ?_) (by rw [hcu]; exact fun z => nomatch z)]
    · exact hcu
    · subst z
      rcases hn with hn | hn
      · exact hn hao
      · exact hn ham
  · rcases (og c).mp z with z | z
    · exact hco z
    · exact hnm (z ▸ hcm)
end
end L2.Pv

set_option Elab.async false
set_option linter.all false
set_option maxRecDepth 100000
namespace L2.Pv
open PySem PySem.Spec PyProof.Rows L2
def jLst (kds : Kvs) (kd : PyData) : List PyData := match kds[jOf kds kd]? with
  | some (_, .list ds) => ds
  | _ => []
/-- the list at j gets one more -/
def appJ (kds : Kvs) (j : Nat) (y : PyData) : Option Kvs := match kds[j]? with
  | some (kd, .list ds) => if ds.length < SZ then some (kds.set j (kd, .list (ds ++ [y]))) else none
  | _ => none
/-- d.setdefault(k, []).append(x) -/
def sSdA (fd fk fx : SE) : SE := fun Γ S => (fd Γ S).bind fun x S1 => match x with
  | .o n => match dclOf S1 n with
    | some _ => (fk Γ S1).bind fun k S2 => match k with
      | .d kd => match dclOf S2 n with
        | some kds => if kindB kds kd = true ∧ isTupD kd = true ∧ kds.length < SZ then
            (sArgs [fx] Γ (S2.set n (.dcl (putJ kds kd)))).bind fun ys S4 => match ys with
              | [.d yd] => match dclOf S4 n with
                | some kds4 => match appJ kds4 (jOf kds kd) yd with
                  | some kds5 => .ok (.d .none) (S4.set n (.dcl kds5))
                  | none => .bad
                | none => .bad
              | _ => .bad
          else .bad
        | none => .bad
      | _ => .bad
    | none => .bad
  | _ => .bad
/-- tuple(reversed(d.get(k, []))) -/
def sRvG (fd fk : SE) : SE := fun Γ S => (fd Γ S).bind fun x S1 => match x with
  | .o n => match dclOf S1 n with
    | some _ => (fk Γ S1).bind fun k S2 => match k with
      | .d kd => match dclOf S2 n with
        | some kds => if kindB kds kd = true ∧ isTupD kd = true then .ok (.d (.tuple (jLst kds kd).reverse)) S2 else .bad
        | none => .bad
      | _ => .bad
    | none => .bad
  | _ => .bad
section
variable {X : Cx} {W : WX} {fd fk fx : SE} {d k x : Expr}
theorem dcl_at {K : Fg} {ρ : Pl} {S : Sto} {H : Hp} (hS : StR K ρ S H) {n : Nat} {a : Addr} {kds : Kvs} (ha : ρ.ad[n]? = some a) (e : dclOf S n = some kds) : ∃ l, ρ.sl[n]? = some (a, l) ∧ a ∈ ρ.m ∧ ∃ es ep, H a = some (dO a es ep) ∧ KvsOk kds ∧ OwD K H ρ.m es l kds := by
  obtain ⟨l, hl⟩ := ad_at.mp ha
  exact ⟨l, hl, hS.getL hl (dclOf_ok e)⟩
theorem kds_j {kds : Kvs} {kd : PyData} (ok : KvsOk kds) (hk : kindB kds kd = true) : KvsOk (putJ kds kd) ∧ (kds.any (fun p => keq p.1 kd) = false → putJ kds kd = kds ++ [(kd, .list [])]) := by
  have e : kds.any (fun p => keq p.1 kd) = false → putJ kds kd = kds ++ [(kd, .list [])] := fun h => by
    unfold putJ
    rw [if_neg]
    unfold jOf
    intro z
    have := List.findIdx_getElem (w := z)
    rw [List.any_eq_false] at h
    exact h _ (List.getElem_mem z) this
  refine ⟨?_, e⟩
  by_cases h : kds.any (fun p => keq p.1 kd) = true
  · have : jOf kds kd < kds.length := by
      obtain ⟨p, hp, hq⟩ := List.any_eq_true.mp h
      exact List.findIdx_lt_length.mpr ⟨p, hp, hq⟩
    unfold putJ
    rw [if_pos this]
    exact ok
  · have h : kds.any (fun p => keq p.1 kd) = false := by simpa using h
    rw [e h]
    have := put_ok (vd := .list []) ok hk
    unfold dPut at this
    rw [h, if_neg Bool.false_ne_true] at this
    exact this
/-- the list is written at its end -/
theorem app_in {ρ : Pl} {S : Sto} {H : Hp} {K : Fx} (hS : StR K ρ S H) {n j : Nat} {a b : Addr} {l : List Addr} {kds kds5 : Kvs} {y : V} {yd : PyData} (hl : ρ.sl[n]? = some (a, l)) (hj : l[j]? = some b) (e : dclOf S n = some kds) (h5 : appJ kds j yd = some kds5) (hy : Rp K H ρ.m y yd) :
    ∃ xs, H b = some (.lst xs) ∧ xs.length < sizeLine ∧ StR K ρ (S.set n (.dcl kds5)) (upd H b (.lst (xs ++ [y]))) ∧ Ext ρ H ρ (upd H b (.lst (xs ++ [y]))) := by
  have hob := hS.getL hl (dclOf_ok e)
  obtain ⟨ham, es, ep, he, ok, ow⟩ := hob
  obtain ⟨kd, ds, xs, hkj, hbm, hbx, hxs⟩ := ow.at hj
  unfold appJ at h5
  rw [hkj] at h5
  simp only at h5
  split at h5
  · rename_i hz
    cases h5
    have nd := own_nd hS.nd hl
    rw [List.nodup_cons] at nd
    have hbl : b ∈ l := List.mem_of_getElem? hj
    have hab : a ≠ b := fun z => nd.1 (z ▸ hbl)
    refine ⟨xs, hbx, by rw [hxs.length, ← SZ_eq]; exact hz, hS.putIn hl hbl hbm fun hc => ⟨ham, es, ep, by rw [upd_ne hab]; exact he, ?_, ?_⟩⟩
    · have e1 : (kds.set j (kd, .list (ds ++ [yd]))).map (·.1) = kds.map (·.1) := by
        rw [List.map_set]
        apply List.ext_getElem?
        intro i
        by_cases hi : j = i
        · subst hi
          rw [List.getElem?_set_self (by rw [List.length_map]; exact (List.getElem?_eq_some_iff.mp hkj).1), List.getElem?_map, hkj]
          rfl
        · rw [List.getElem?_set_ne hi]
      have e2 : ∀ p ∈ kds.set j (kd, .list (ds ++ [yd])), ∃ q ∈ kds, q.1 = p.1 := fun p hp => by
        have : p.1 ∈ (kds.set j (kd, .list (ds ++ [yd]))).map (·.1) := List.mem_map.mpr ⟨p, hp, rfl⟩
        rw [e1] at this
        obtain ⟨q, hq, e⟩ := List.mem_map.mp this
        exact ⟨q, hq, e⟩
      refine ⟨fun p hp => ?_, ?_, ?_⟩
      · obtain ⟨q, hq, e⟩ := e2 p hp
        rw [← e]
        exact ok.key q hq
      · rcases ok.kind with z | z
        · exact .inl fun p hp => let ⟨q, hq, e⟩ := e2 p hp; by rw [← e]; exact z q hq
        · exact .inr fun p hp => let ⟨q, hq, e⟩ := e2 p hp; by rw [← e]; exact z q hq
      · have := congrArg (List.map nkOf) e1
        rw [List.map_map, List.map_map] at this
        have h2 : (kds.set j (kd, .list (ds ++ [yd]))).map (fun p => nkOf p.1) = kds.map fun p => nkOf p.1 := this
        rw [h2]
        exact ok.nd
    · exact OwD.put hc (fun _ h => h) upd_same (fun c hc _ => upd_ne hc) ((RpL.cov hc _ _ hxs).snoc (Rp.cov hc _ _ hy)) ow nd.2 hj hkj
  · cases h5
theorem le_sdA {p1 p2 p3 p4 lp : Pos} (hu : X.A.units + 64 < cLine) (hb : attributeBase d "setdefault" X.env (eval d X.env) = eval d X.env) (hl : (p1.endLine == p2.line) = true)
    (hs : starEach [k, .List [] lp] X.env = (false, eval k X.env) :: starEach [.List [] lp] X.env) (hs2 : starEach [.List [] lp] X.env = (false, eval (.List [] lp) X.env) :: starEach [] X.env)
    (hp : (backTo p2 (starEach [.List [] lp] X.env)).any (·.1) = false) (hp2 : (backTo p2 (starEach [k, .List [] lp] X.env)).any (·.1) = false)
    (f : M1 X (.Call (.Attribute d "setdefault" p1) [k, .List [] lp] [] p2) x "append" p3 p4) (hd : PE X d (LE X.F W fd)) (hk : PE X k (LE X.F W fk)) (hx : PE X x (LE X.F W fx)) :
    PE X (.Call (.Attribute (.Call (.Attribute d "setdefault" p1) [k, .List [] lp] [] p2) "append" p3) [x] [] p4) (LE X.F W (sSdA fd fk fx)) := by
  have inner := pe_bmx isDO_ty PySem.F.plainAttrs_dict PySem.F.slot_dict_setdefault PySem.F.type_dict_setdefault (mt_setL hu) hd (pa_cons hk (pa_cons (pe_lst (pos := lp) pa_nil) pa_nil hs2) hs) hb (all_few hp2 (show 2 < 30 by decide)) hl hs hp
  refine (pe_bm PySem.F.plainAttrs_list PySem.F.slot_list_append PySem.F.type_list_append mt_append inner (la_cons hx la_nil f.st) f.base f.few f.line f.st f.plain).weak fun σ H Q h => ?_
  obtain ⟨Γ, S, ρ, hS, hE, hp⟩ := h
  refine ⟨Γ, S, ρ, hS, hE, Pst.bind hp fun va S1 ρ1 H1 xa ev x1 hS1 q1 hp => ?_⟩
  split at hp
  · rename_i n
    split at hp
    · rename_i kds0 e0
      obtain ⟨a, ha, rfl⟩ := q1
      obtain ⟨l0, hl0, ham0, es0, ep0, he0, _, _⟩ := dcl_at hS1 ha e0
      refine ⟨⟨a, es0, ep0, rfl, he0⟩, Γ, S1, ρ1, hS1, hE.ext x1, Pst.bind hp fun vk S2 ρ2 H2 xk ev2 x2 hS2 q2 hp => ?_⟩
      have hE2 := (hE.ext x1).ext x2
      split at hp
      · rename_i kd
        split at hp
        · rename_i kds e1
          split at hp
          · rename_i hc
            obtain ⟨c1, c2, c3⟩ := hc
            refine ⟨Nat.zero_le _, fun q hq => ?_⟩
            obtain ⟨l, hl, ham, es, ep, he, ok, ow⟩ := dcl_at hS2 (x2.ad ha) e1
            obtain ⟨gS, gx⟩ := hS2.fresh (o := .lst []) hq
            have nd := own_nd hS2.nd hl
            rw [List.nodup_cons] at nd
            have tkl : ∀ b ∈ l, H2 b ≠ none := fun b hb => hS2.tka b (own_at hl (List.mem_cons_of_mem _ hb))
            have hqa : a ≠ q := fun z => by rw [z] at he; rw [hq] at he; cases he
            have he' : upd H2 q (.lst []) a = some (dO a es ep) := by rw [upd_ne hqa]; exact he
            have ow' : OwD X.F.toFg (upd H2 q (.lst [])) ρ2.m es l kds := ow.cov gx.cov (fun b hb => upd_ne fun z => tkl b hb (by rw [z]; exact hq)) fun b _ hb => hb
            have rest : ∀ (ρ3 : Pl) (S3 : Sto) (H3 : Hp) (L : List Addr) (b : Addr) (zs : List V), StR X.F ρ3 S3 H3 → EnR X.F H3 ρ3 σ Γ → ρ3.sl[n]? = some (a, L) → L[jOf kds kd]? = some b → H3 b = some (.lst zs) → Pst X.F (WE W σ) (Vr X.F) ρ3 H3 ((sArgs [fx] Γ S3).bind fun ys S4 => match ys with
              | [.d yd] => match dclOf S4 n with
                | some kds4 => match appJ kds4 (jOf kds kd) yd with
                  | some kds5 => .ok (.d .none) (S4.set n (.dcl kds5))
                  | none => .bad
                | none => .bad
              | _ => .bad) Q → tyV X.K "list" (.ref b) H3 ∧ LA X.F W (sArgs [fx]) σ H3 fun xs H2 => rAppend (.ref b) xs H2 Q := fun ρ3 S3 H3 L b zs hS3 hE3 hL hj hz hp => by
              refine ⟨.inl ⟨rfl, zs, .of hz⟩, Γ, S3, ρ3, hS3, hE3, Pst.bind hp fun ys S4 ρ4 H4 yx ev4 x4 hS4 q4 hp => ?_⟩
              split at hp
              · rename_i yd
                split at hp
                · rename_i kds4 e4
                  split at hp
                  · rename_i kds5 e5
                    obtain ⟨y, rfl, hy⟩ := q4.one rfl
                    obtain ⟨L', hL'⟩ := x4.slk n a L hL
                    have hj' : (L ++ L')[jOf kds kd]? = some b := by rw [List.getElem?_append_left (List.getElem?_eq_some_iff.mp hj).1]; exact hj
                    obtain ⟨xs, g1, g2, g3, g4⟩ := app_in hS4 hL' hj' e4 e5 hy
                    exact ⟨b, xs, y, rfl, rfl, g1, g2, hp ρ4 _ .non g4 g3 (show Rp _ _ _ _ _ from .non)⟩
                  · exact hp.elim
                · exact hp.elim
              · exact hp.elim
            refine ⟨a, es, ep, l, kds, ρ2.m, xk, kd, q, rfl, rfl, he', ok, ow', c1, c2, c3, Rp.cov gx.cov _ _ q2, fun b hjl hjb => ?_, fun hn hjn k ep' e g1 g2 g3 g4 => ?_⟩
            · have eS : S2.set n (.dcl (putJ kds kd)) = S2 := by
                unfold putJ
                rw [if_pos hjl]
                apply List.ext_getElem?
                intro i
                have hn := dclOf_ok e1
                by_cases hi : n = i
                · subst hi
                  rw [List.getElem?_set_self (List.getElem?_eq_some_iff.mp hn).1, hn]
                · rw [List.getElem?_set_ne hi]
              rw [eS] at hp
              obtain ⟨_, _, zs, _, _, hz, _⟩ := ow'.at hjb
              exact rest ρ2 S2 _ l b zs gS (hE2.ext gx) hl hjb hz (Pst.mono gx hp)
            · have hkj := kds_j ok c1
              have gr := hS2.growIn (o1 := .lst []) (o2 := dO a (es ++ [e]) ep') (p := .dcl (putJ kds kd)) hl ham hq fun hc => ⟨List.mem_append_left _ ham, es ++ [e], ep', upd_same, hkj.1, by
                rw [hkj.2 hn]
                refine OwD.snoc g1 g2 g3 (Rp.cov hc _ _ q2) g4 (List.mem_append_right _ List.mem_cons_self) (by rw [upd_ne hqa.symm, upd_same]) .nil (ow.cov hc (fun b hb => ?_) fun b _ hb => List.mem_append_left _ hb)
                have z1 : b ≠ a := fun z => nd.1 (by rw [← z]; exact hb)
                have z2 : b ≠ q := fun z => tkl b hb (by rw [z]; exact hq)
                rw [upd_ne z1, upd_ne z2]⟩
              refine rest _ _ _ (l ++ [q]) q [] gr.1 (hE2.ext gr.2) ?_ ?_ (by rw [upd_ne hqa.symm, upd_same]) (Pst.mono gr.2 hp)
              · show (ρ2.sl.set n (a, l ++ [q]))[n]? = _
                rw [List.getElem?_set_self (List.getElem?_eq_some_iff.mp hl).1]
              · rw [hjn, ← ow.len.2, List.getElem?_append_right (Nat.le_refl _), Nat.sub_self]
                rfl
          · exact hp.elim
        · exact hp.elim
      · exact hp.elim
    · exact hp.elim
  · exact hp.elim
theorem le_rvG {p1 p2 lp pr pt pos pos2 : Pos} (hu : X.A.units + 64 < cLine) (hcm : X.calm = true) (hg : Gl X "tuple") (hm : X.mg "tuple" = none) (hg2 : Gl X "reversed") (hm2 : X.mg "reversed" = none) (hb : attributeBase d "get" X.env (eval d X.env) = eval d X.env) (hl : (p1.endLine == p2.line) = true)
    (hs : starEach [k, .List [] lp] X.env = (false, eval k X.env) :: starEach [.List [] lp] X.env) (hs2 : starEach [.List [] lp] X.env = (false, eval (.List [] lp) X.env) :: starEach [] X.env)
    (hp : (backTo p2 (starEach [.List [] lp] X.env)).any (·.1) = false) (hp2 : (backTo p2 (starEach [k, .List [] lp] X.env)).any (·.1) = false)
    (hs3 : starEach [.Call (.Attribute d "get" p1) [k, .List [] lp] [] p2] X.env = (false, eval (.Call (.Attribute d "get" p1) [k, .List [] lp] [] p2) X.env) :: starEach [] X.env)
    (hs4 : starEach [.Call (.Name "reversed" pr) [.Call (.Attribute d "get" p1) [k, .List [] lp] [] p2] [] pos2] X.env = (false, eval (.Call (.Name "reversed" pr) [.Call (.Attribute d "get" p1) [k, .List [] lp] [] p2] [] pos2) X.env) :: starEach [] X.env)
    (hd : PE X d (LE X.F W fd)) (hk : PE X k (LE X.F W fk)) :
    PE X (.Call (.Name "tuple" pt) [.Call (.Name "reversed" pr) [.Call (.Attribute d "get" p1) [k, .List [] lp] [] p2] [] pos2] [] pos) (LE X.F W (sRvG fd fk)) := by
  have inner := pe_bmx isDO_ty PySem.F.plainAttrs_dict PySem.F.slot_dict_get PySem.F.type_dict_get (mt_getL hu) hd (pa_cons hk (pa_cons (pe_lst (pos := lp) pa_nil) pa_nil hs2) hs) hb (all_few hp2 (show 2 < 30 by decide)) hl hs hp
  refine (RT.pe_tupRev hcm hg hm hg2 hm2 inner hs3 hs4).weak fun σ H Q h => ?_
  obtain ⟨Γ, S, ρ, hS, hE, hp⟩ := h
  refine ⟨Γ, S, ρ, hS, hE, Pst.bind hp fun va S1 ρ1 H1 xa ev x1 hS1 q1 hp => ?_⟩
  split at hp
  · rename_i n
    split at hp
    · rename_i kds0 e0
      obtain ⟨a, ha, rfl⟩ := q1
      obtain ⟨l0, hl0, ham0, es0, ep0, he0, _, _⟩ := dcl_at hS1 ha e0
      refine ⟨⟨a, es0, ep0, rfl, he0⟩, Γ, S1, ρ1, hS1, hE.ext x1, Pst.bind hp fun vk S2 ρ2 H2 xk ev2 x2 hS2 q2 hp => ?_⟩
      split at hp
      · rename_i kd
        split at hp
        · rename_i kds e1
          split at hp
          · rename_i hc
            obtain ⟨c1, c2⟩ := hc
            refine ⟨Nat.zero_le _, fun q hq => ?_⟩
            obtain ⟨gS, gx⟩ := hS2.fresh (o := .lst []) hq
            obtain ⟨l, hl, ham, es, ep, he, ok, ow⟩ := dcl_at gS (x2.ad ha) e1
            have fin : ∀ (b : Addr) (zs : List V), upd H2 q (.lst []) b = some (.lst zs) → RpL X.F.toFg (upd H2 q (.lst [])) ρ2.m zs (jLst kds kd) → ∃ (a : Addr) (xs : List V), V.ref b = .ref a ∧ SqL X.K (upd H2 q (.lst [])) a xs ∧ ∀ q', upd H2 q (.lst []) q' = none → Q (.ref q') (upd (upd H2 q (.lst [])) q' (.tup xs.reverse)) := fun b zs hz hr =>
              ⟨b, zs, rfl, .of hz, fin_tup gS hr.reverse (fun ρ' H' x g1 g2 g3 => hp ρ' H' x (gx.trans g1) g2 g3)⟩
            refine ⟨a, es, ep, l, kds, ρ2.m, xk, kd, q, rfl, rfl, he, ok, ow, c1, c2, Rp.cov gx.cov _ _ q2, fun b hjl hjb => ?_, fun hj => ?_⟩
            · obtain ⟨kd', ds, zs, hkj, _, hz, hr⟩ := ow.at hjb
              refine fin b zs hz ?_
              unfold jLst
              rw [hkj]
              exact hr
            · refine fin q [] upd_same ?_
              unfold jLst
              rw [hj, List.getElem?_eq_none (Nat.le_refl _)]
              exact .nil
          · exact hp.elim
        · exact hp.elim
      · exact hp.elim
    · exact hp.elim
  · exact hp.elim
end
end L2.Pv

set_option Elab.async false
set_option linter.all false
set_option maxRecDepth 100000
/-! [x + "..", .., x.replace("..", "..")]: behind the first text a token is out -/
namespace L2.Pv
open PySem PySem.Spec PyProof.Rows L2
theorem replS_all {P : Nat → Prop} {y z : List Nat} (hz : ∀ c ∈ z, P c) : ∀ (l : List Nat) (s : Nat), (∀ c ∈ l, P c) → ∀ c ∈ StrLaws.replS y z s l, P c
  | [], s, _, c, hc => by
    rw [StrLaws.replS] at hc
    exact nomatch hc
  | d :: r, 0, h, c, hc => by
    rw [StrLaws.replS] at hc
    split at hc
    · rcases List.mem_append.mp hc with hc | hc
      · exact hz c hc
      · exact replS_all hz r _ (fun c hc => h c (List.mem_cons_of_mem _ hc)) c hc
    · rcases List.mem_cons.mp hc with rfl | hc
      · exact h _ List.mem_cons_self
      · exact replS_all hz r _ (fun c hc => h c (List.mem_cons_of_mem _ hc)) c hc
  | d :: r, s + 1, h, c, hc => by
    rw [StrLaws.replS] at hc
    exact replS_all hz r _ (fun c hc => h c (List.mem_cons_of_mem _ hc)) c hc
theorem strOk_repl {x y z : Str} (hy : 1 ≤ y.length) (hx : PySem.PyData.strOk x = true) (hz : PySem.PyData.strOk z = true) : PySem.PyData.strOk (Txt.replace x y z) = true := by
  have l : ∀ x : Str, PySem.PyData.strOk x = true ↔ ∀ c ∈ x.cps.toList, c < 0x110000 := fun x => by
    unfold PySem.PyData.strOk
    rw [← Array.all_toList, List.all_eq_true]
    exact ⟨fun h c hc => of_decide_eq_true (h c hc), fun h c hc => decide_eq_true (h c hc)⟩
  rw [l, StrLaws.replace_list hy]
  exact replS_all ((l z).mp hz) _ _ ((l x).mp hx)
def dRep (y z : Str) : PyData → Option PyData
  | .str x => if x.length + (x.length + 1) * z.length ≤ SZ then some (.str (Txt.replace x y z)) else none
  | _ => none
section
variable {X : Cx} {W : WX} {fo fa : SE} {o a e : Expr} {es : List Expr} {fs : List SE} {y z c : Str} {j k : Nat} {c0 c1 cp apos p pos : Pos}
theorem pet_weak {t t' : TE} (h : PET X e t) (w : ∀ σ H Q, t' σ H Q → t σ H Q) : PET X e t' := fun pins s σ H Q h0 I hq => h pins s σ H Q h0 I (w _ _ _ hq)
theorem pat_weak {t t' : TA} (h : PAT X es t) (w : ∀ σ H Q, t' σ H Q → t σ H Q) : PAT X es t' := fun pos pins s σ H Q h0 I hq => h pos pins s σ H Q h0 I (w _ _ _ hq)
theorem le_rep (ho : PE X o (LE X.F W fo)) (hyz : (y == z) = false) (hy : 1 ≤ y.length) (hz : PySem.PyData.strOk z = true)
    (hst : starEach [.Constant (.str y) j c0, .Constant (.str z) k c1] X.env = [(false, eval (.Constant (.str y) j c0) X.env), (false, eval (.Constant (.str z) k c1) X.env)])
    (hbase : attributeBase o "replace" X.env (eval o X.env) = eval o X.env) (hline : (apos.endLine == pos.line) = true) :
    PET X (.Call (.Attribute o "replace" apos) [.Constant (.str y) j c0, .Constant (.str z) k c1] [] pos) (LE X.F W (sUn (dat1 (dRep y z)) fo)) :=
  pet_weak (CwR.pet_replC ho hyz hst hbase hline) fun σ H Q h => le_one (nx_dat1 _) (RR := fun v H1 Q => ∃ x, v = .str x ∧ x.length + (x.length + 1) * z.length ≤ 16777216 ∧ Q (.str (Txt.replace x y z)) H1) (fun x H1 Q q => by
    obtain ⟨ρ, S, va, r, S', hS, ha, hg, hc⟩ := q
    obtain ⟨d, c, rfl, hd, rfl, rfl⟩ := dat1_ok hg
    unfold dRep at hd
    split at hd
    · rename_i x
      split at hd
      · rename_i hsz
        cases hd
        cases (show Rp _ _ _ _ _ from ha) with
        | str _ ok => exact ⟨x, rfl, hsz, hc.here hS (show Rp _ _ _ _ _ from .str _ (strOk_repl hy ok hz))⟩
      · cases hd
    · cases hd) h
/-- behind it a token is out -/
def P1 (X : Cx) (e : Expr) (t : TE) : Prop := ∀ (pins : List (Addr × Obj)) (s : Shared) (σ : L2.St) (H : Hp) (Q : VK), Inv X pins σ H s → t σ H Q → wpAny (model X.prog X.w) X.A (eval e X.env) (fun v s1 => 1 ≤ s1.toks ∧ EP X pins σ Q v s1) X.xe s
theorem p1_add (ha : PE X a (LE X.F W fa)) (hc : PySem.PyData.strOk c = true) : P1 X (.BinOp a .Add (.Constant (.str c) j cp) pos) (LE X.F W (sBin gAdd fa (sCon (.str c)))) := by
  intro pins s σ H Q I h
  refine wpAny_BinOp (thn (ha.run pins s σ H _ I (le_two nx_gAdd (fun _ _ _ _ q => q) h)) fun v s1 ⟨x, H1, I1, r1, q1⟩ => ?_)
  refine Calls.Constant_str ?_
  have q2 : rD X.F gAdd x (.str c) H1 Q := by
    obtain ⟨Γ, S, ρ, hS, hE, hp⟩ := q1
    exact hp ρ H1 _ (Ext.refl hS) hS (show Rp _ _ _ _ _ from .str _ hc)
  refine wpAny_mono (PySem.wpAny_toks (opd_gAdd pins { s1 with toks := s1.toks + 1 } σ H1 x (.str c) v (.str c s1.toks) Q (I1.tok _) r1 ⟨_, rfl⟩ q2)) (fun u s2 q => ⟨?_, q.2⟩) fun _ _ z => z.2
  have h1 : s1.toks + 1 ≤ s2.toks := q.1
  omega
theorem lat_nil : PAT X [] (LA X.F W (sArgs [])) := pat_weak pat_nil fun σ H Q ⟨Γ, S, ρ, hS, hE, hp⟩ => hp ρ H [] (Ext.refl hS) hS .nil
theorem la_w {ta : SA} (σ : L2.St) (H : Hp) (Q : List V → Hp → Prop) (h : LA X.F W (sArgs (fa :: fs)) σ H Q) : tCons (LE X.F W fa) (LA X.F W (sArgs fs)) σ H Q := by
  obtain ⟨Γ, S, ρ, hS, hE, hp⟩ := h
  refine ⟨Γ, S, ρ, hS, hE, Pst.bind hp fun va S1 ρ1 H1 x _ x1 hS1 q1 hp => ?_⟩
  refine ⟨Γ, S1, ρ1, hS1, hE.ext x1, Pst.bind hp fun vs S2 ρ2 H2 xs _ x2 hS2 q2 hp => ?_⟩
  exact hp ρ2 H2 _ (Ext.refl hS2) hS2 (.cons (q1.ext x2) q2)
theorem lat_cons (ha : PET X a (LE X.F W fa)) (hr : PAT X es (LA X.F W (sArgs fs))) (hs : starEach (a :: es) X.env = (false, eval a X.env) :: starEach es X.env) : PAT X (a :: es) (LA X.F W (sArgs (fa :: fs))) :=
  pat_weak (pat_cons ha hr hs) (la_w (ta := sArgs fs))
theorem pa1_cons {te : TE} {ta : TA} (ha : P1 X a te) (hr : PAT X es ta) (hs : starEach (a :: es) X.env = (false, eval a X.env) :: starEach es X.env) : PA X (a :: es) (tCons te ta) := by
  refine ⟨fun pos pins s σ H Q I h => ?_⟩
  rw [hs]
  show wpAny _ _ (spliced ((false, eval a X.env) :: backTo pos (starEach es X.env))) _ _ s
  refine Calls.spliced_cons (thn (ha pins s σ H _ I h) fun v s1 ⟨hk, x, H1, I1, r1, q1⟩ => ?_)
  exact thn (hr pos pins s1 σ H1 _ hk I1 q1) fun us s2 ⟨xs, H2, I2, r2, q2⟩ => ⟨x :: xs, H2, I2, .cons r1 r2, q2⟩
theorem la1_cons (ha : P1 X a (LE X.F W fa)) (hr : PAT X es (LA X.F W (sArgs fs))) (hs : starEach (a :: es) X.env = (false, eval a X.env) :: starEach es X.env) : PA X (a :: es) (LA X.F W (sArgs (fa :: fs))) :=
  (pa1_cons ha hr hs).weak (la_w (ta := sArgs fs))
end
end L2.Pv

set_option Elab.async false
set_option linter.all false
set_option maxRecDepth 100000
namespace L2.Pv
open PySem PySem.Spec PyProof.Rows L2
inductive GE where
  | blt (b : Bi)
  | con (d : PyData)
  | fn (n : Nat)
  | fk (n : Nat) (ks : List (Str × PyData))
structure Inf where
  N : List Str
  sc : Scope
  blk : Bool
  hot : Bool
  xt : List (Str × XC)
  G : List (Str × GE)
  GH : List (Str × GE)
  new : List Nat
  fz : List (Nat × Nat)

/-- what a global name stands for: less is known where an exception is handled -/
def Inf.lk (I : Inf) (x : Str) : Option GE := if I.hot = true then I.GH.lookup x else I.G.lookup x
/-- keyword-only parameters with defaults: called by n values, or by n values and all of them -/
structure FkB (K : Fg) (fd : FuncData) (ps : List Str) (n : Nat) (ks : List (Str × PyData)) : Prop where
  df : ∃ (dvs : List V) (ds : List Value), Vals dvs ds ∧ RpL K HN [] dvs (ks.map (·.2)) ∧ Binds K.K fd ps ds
  kw : KBn K.K fd ps n (ks.map (·.1)) (fun us ws => us ++ ws) (fun vs zs => vs ++ zs)
/-- what a global name stands for -/
def GOk (X : Cx) (hot : Bool) (call : Str → GL) (k : Nat) (x : Str) : GE → Prop
  | .blt b => X.mg x = none ∧ x = biName b
  | .con d => ∃ u v, X.mg x = some u ∧ RelV v u ∧ Rp X.F HN [] v d
  | .fn n => ∃ f fd ps, X.mg x = some (.ref f) ∧ PySem.W.keepIn X.K (.ref f) = true ∧ Binds X.K fd ps [] ∧ FnX hot X.prog X.w X.K X.mg X.base k f fd ps n (call x)
  | .fk n ks => ∃ f fd ps, X.mg x = some (.ref f) ∧ PySem.W.keepIn X.K (.ref f) = true ∧ FkB X.F fd ps n ks ∧ FnX hot X.prog X.w X.K X.mg X.base k f fd ps (n + ks.length) (call x)
structure Cok (X : Cx) (W : WX) (I : Inf) (call : Str → GL) (k : Nat) : Prop where
  N : X.N = I.N
  nd : X.N.Nodup
  sc : X.env.scope = I.sc
  hot1 : HotOk I.hot X (k + 1)
  fn : I.blk = false → ∀ x, X.fn x = true
  po : PassesOwn (model X.prog X.w) X.A X.env X.xe
  tk : L2N.Takes X W
  glob : ∀ x e, I.G.lookup x = some e → GOk X false call k x e
  globH : ∀ x e, I.GH.lookup x = some e → GOk X true call k x e
  xo : XtOk X.prog X.w X.K X.mg X.base I.xt
  fr : I.blk = false → X.stack = X.env :: X.outer ∧ X.env.frame = some X.env.locals
theorem HotOk.down {hot : Bool} {X : Cx} {k : Nat} (h : HotOk hot X (k + 1)) : HotOk hot X k := ⟨h.cool, h.warm, h.room.mono (Nat.le_succ k)⟩
theorem Cok.hot {X : Cx} {W : WX} {I : Inf} {call : Str → GL} {k : Nat} (C : Cok X W I call k) : HotOk I.hot X k := C.hot1.down
section
variable {X : Cx} {W : WX} {I : Inf} {call : Str → GL} {k : Nat} {x : Str}
theorem vis_of (C : Cok X W I call k) (h : visB I.sc x = true) : Vis X.env.scope x := by
  unfold Vis
  rw [C.sc]
  unfold visB at h
  split at h
  · exact .inl (by assumption)
  · exact .inr (.inl (by assumption))
  · exact .inr (.inr (by assumption))
  · cases h
theorem gl_of (C : Cok X W I call k) (h : glB I.sc x = true) : Gl X x := by
  show X.env.scope.names.lookup x = _
  rw [C.sc]
  unfold glB at h
  split at h
  · assumption
  · cases h
theorem loc_of (C : Cok X W I call k) (h : locB I.blk I.sc x = true) : Loc X.env.scope x ∧ (X.fn x = true ∨ X.env.scope.names.lookup x = some .local) := by
  unfold Loc
  rw [C.sc]
  unfold locB at h
  split at h
  · rename_i e
    exact ⟨.inl e, .inr e⟩
  · rename_i e
    exact ⟨.inr e, .inl (C.fn (by simpa using h) x)⟩
  · cases h
end

def constOf : Const → Option PyData
  | .int i => some (.int i)
  | .bool b => some (.bool b)
  | .none => some .none
  | .str x => if PySem.PyData.strOk x = true then some (.str x) else none
  | _ => none
def binG : Operator → Option G2
  | .Add => some gAdd
  | .Sub => some (dat2 dSub)
  | .Mult => some (dat2 dMul)
  | .FloorDiv => some (dat2 dFdiv)
  | .Mod => some (dat2 dMod)
  | .Pow => some (dat2 dPow)
  | _ => none
def cmpG : CmpOp → Option G2
  | .Eq => some (cmp2 dEq)
  | .NotEq => some (cmp2 dNe)
  | .Lt => some (cmp2 dLt)
  | .LtE => some (cmp2 dLe)
  | .Gt => some (cmp2 dGt)
  | .GtE => some (cmp2 dGe)
  | .In => some (cmp2 dIn)
  | .NotIn => some (cmp2 dNotIn)
  | .Is => some (gIsN false)
  | .IsNot => some (gIsN true)
def biG : Bi → Option GL
  | .len => some (arg1 gLen)
  | .abs => some (arg1 (dat1 dAbs))
  | .int => some (arg1 (dat1 dInt))
  | .max => some (arg2 (dat2 dMax))
  | .min => some (arg2 (dat2 dMin))
  | .str => some (arg1 (dat1 dStr))
  | .ord => some (arg1 (dat1 dOrd))
  | .list => some (arg1 gList)
  | .tuple => some (arg1 gTuple)
  | .all => some (arg1 gAll)
  | .any => some (arg1 gAny)
  | .sorted => some (arg1 gSort)
  | .sum => some (arg1 gSum)
  | _ => none
/-- served where an exception is handled, too -/
def biHot : Bi → Bool
  | .len => true
  | .abs => true
  | .int => true
  | .str => true
  | .ord => true
  | .tuple => true
  | .sorted => true
  | _ => false
def biGN (b : Bi) (nw : Bool) (n : Nat) : Option GL := match b, nw, n with
  | .list, true, _ => some (arg1 gListN)
  | .max, _, 1 => some (arg1 gMax1)
  | .min, _, 1 => some (arg1 gMin1)
  | b, _, _ => biG b
def biTy : Bi → Option String
  | .int => some "int"
  | .str => some "str"
  | .list => some "list"
  | .tuple => some "tuple"
  | .bool => some "bool"
  | _ => none
def metG (name : Str) : Option (SE → SE → SE) :=
  if name = ("append" : Str) then some fun fo fe => sMetO gAppend fo [fe] else
  if name = ("extend" : Str) then some fun fo fe => sMetO gExtend fo [fe] else
  if name = ("pop" : Str) then some fun fo fe => sMetO gPop1 fo [fe] else
  if name = ("join" : Str) then some fun fo fe => sMetS gJoin fo [fe] else
  if name = ("startswith" : Str) then some fun fo fe => sMetS gStarts fo [fe] else
  if name = ("split" : Str) then some fun fo fe => sMetS gSplit fo [fe] else
  if name = ("count" : Str) then some fun fo fe => sMetL gCount fo [fe] else none

structure CR where
  e : Option SE
  t : Option ST
def seqM {α β : Type} (f : α → Option β) : List α → Option (List β)
  | [] => some []
  | a :: r => match f a with
    | some b => (seqM f r).map (b :: ·)
    | none => none
def isOwn : NameKind → Bool
  | .local => true
  | .cell => true
  | _ => false
def ownOf (N : List Str) : List (Str × NameKind) → List (Str × Nat)
  | [] => []
  | (n, kd) :: r => match isOwn kd, idxOf N n with
    | true, some i => (n, i) :: ownOf N r
    | _, _ => ownOf N r
def inBlk (I : Inf) (scope : Scope) : Inf := { I with sc := relS scope I.sc, blk := true }
def nmPlace (I : Inf) : Expr → Option Nat
  | .Name x _ => match idxOf I.N x with
    | some i => if locB I.blk I.sc x = true then some i else none
    | none => none
  | _ => none
def tgOf1 (I : Inf) : Expr → Option (List Nat × Tg)
  | .Name x p => (nmPlace I (.Name x p)).map fun i => ([i], tNm i)
  | .Tuple es _ _ => if I.hot = false then (seqM (nmPlace I) es).map fun is => (is, tTp is) else none
  | _ => none
def tgOf2 (I : Inf) : Expr → Option (List Nat × Tg)
  | .Name x p => (nmPlace I (.Name x p)).map fun i => ([i], tNm i)
  | .Tuple es _ _ => if I.hot = false then match seqM (nmPlace I) es with
      | some is => some (is, tTp is)
      | none => (seqM (tgOf1 I) es).map fun r => (r.flatMap (·.1), tTs (r.map (·.2)))
    else none
  | _ => none
def tgOf (I : Inf) : Expr → Option (List Nat × Tg)
  | .Name x p => (nmPlace I (.Name x p)).map fun i => ([i], tNm i)
  | .Tuple es _ _ => if I.hot = false then match seqM (nmPlace I) es with
      | some is => some (is, tTp is)
      | none => (seqM (tgOf2 I) es).map fun r => (r.flatMap (·.1), tTs (r.map (·.2)))
    else none
  | _ => none
def isTup : Expr → Bool
  | .Tuple _ _ _ => true
  | _ => false
def itOf (rec : Inf → Expr → CR) (I : Inf) (tg e : Expr) : Option SI := match e with
  | .Call (.Name x p) args [] pos =>
    match if glB I.sc x = true then I.lk x else none with
    | some (.blt .range) => match args with
      | [a] => if notStar a = true then (rec I a).e.map sRng1 else none
      | [a, b] => if notStar a = true ∧ notStar b = true then match (rec I a).e, (rec I b).e with
          | some fa, some fb => some (sRng2 fa fb)
          | _, _ => none
        else none
      | _ => none
    | some (.blt .enumerate) => match args with
      | [a] => if notStar a = true ∧ isTup tg = true then (rec I a).e.map sEnum else none
      | _ => none
    | some (.blt .zip) => match args with
      | [a, b] => if (notStar a = true ∧ notStar b = true) ∧ isTup tg = true then match (rec I a).e, (rec I b).e with
          | some fa, some fb => some (sZip fa fb)
          | _, _ => none
        else none
      | _ => none
    | some (.blt .reversed) => match args with
      | [a] => if notStar a = true then (rec I a).e.map sRev else none
      | _ => none
    | _ => (rec I (.Call (.Name x p) args [] pos)).e.map sIter
  | e => (rec I e).e.map sIter
def boolEs (op : BoolOp) : List SE → Option SE
  | [] => none
  | [f] => some f
  | f :: r => match op, boolEs op r with
    | .And, some g => some (sAndV f g)
    | .Or, some g => some (sOrV f g)
    | _, none => none
def boolTs (op : BoolOp) : List ST → Option ST
  | [] => none
  | [f] => some f
  | f :: r => match op, boolTs op r with
    | .And, some g => some (sAnd f g)
    | .Or, some g => some (sOr f g)
    | _, none => none
def partOf (rec : Inf → Expr → CR) (I : Inf) : Option Expr → Option (Option SE)
  | none => some none
  | some e => (rec I e).e.map some
def conT (I : Inf) : Expr → Option (List Str)
  | .Name x _ => if okName x = true then
      match if glB I.sc x = true then I.lk x else none with
      | some (.con (.tuple ds)) => strsOf ds
      | _ => none
    else none
  | _ => none
/-- sorted(xs, key=f) -/
def sortKw (call : Str → GL) (rec : Inf → Expr → CR) (I : Inf) (a : Expr) : List Expr → List Keyword → Option SE
  | [], [⟨some kn, .Name y _, _⟩] => if I.hot = false ∧ kn = ("key" : Str) ∧ okName y = true then
      match if glB I.sc y = true then I.lk y else none with
      | some (.fn 1) => (rec I a).e.map fun fa => sCall (arg1 (gSortK (call y))) [fa]
      | _ => none
    else none
  | _, _ => none
def exprOf (call : Str → GL) (rec : Inf → Expr → CR) (I : Inf) (e : Expr) : Option SE := match e with
  | .Name x _ => if okName x = true then
      match if visB I.sc x = true then idxOf I.N x else none with
      | some i => some (sVar i)
      | none => match if glB I.sc x = true then I.lk x else none with
        | some (.con d) => some (sCon d)
        | _ => none
    else none
  | .Constant c _ _ => (constOf c).map sCon
  | .BinOp a op b _ => match (rec I a).e, (rec I b).e, binG op with
    | some fa, some fb, some g => some (sBin g fa fb)
    | _, _, _ => none
  | .UnaryOp .USub a _ => (rec I a).e.map (sUn (dat1 dNeg))
  | .UnaryOp .Not a _ => (rec I a).e.map sNotV
  | .Compare a [op] [b] _ => if notSet b = true then match (rec I a).e, (rec I b).e, cmpG op with
      | some fa, some fb, some g => some (sBin g fa fb)
      | _, _, _ => none
    else none
  | .BoolOp op vs _ => match seqM (fun v => (rec I v).e) vs with
    | some fs => boolEs op fs
    | none => none
  | .IfExp c a b _ => match (rec I c).t, (rec I a).e, (rec I b).e with
    | some tc, some fa, some fb => some (sIf tc fa fb)
    | _, _, _ => none
  | .Subscript a (.Slice lo hi none _) _ => match (rec I a).e, partOf rec I lo, partOf rec I hi with
    | some fa, some fl, some fh => some (sSl fa fl fh)
    | _, _, _ => none
  | .Subscript a (.Slice none none (some (.UnaryOp .USub (.Constant (.int 1) _ _) _)) _) _ => (rec I a).e.map (sUn gBack)
  | .Subscript a b _ => if notSlice b = true then match (rec I a).e, (rec I b).e with
      | some fa, some fb => some (sBin gIx fa fb)
      | _, _ => none
    else none
  | .Tuple es _ _ => if es.all notStar = true then (seqM (fun v => (rec I v).e) es).map (sCall gTup) else none
  | .List es pos => if es.all notStar = true then (seqM (fun v => (rec I v).e) es).map (sCall (if posKey pos ∈ I.new then gNew else gLst)) else none
  | .Call (.Name x _) args [] cpos => if okName x = true ∧ args.all notStar = true then
      match if glB I.sc x = true then I.lk x else none with
      | some (.fn n) => match seqM (fun v => (rec I v).e) args with
        | some fs => if fs.length = n then some (sCall (call x) fs) else none
        | none => none
      | some (.fk n ks) => match seqM (fun v => (rec I v).e) args with
        | some fs => if fs.length = n ∧ 0 < n then some (sCall (call x) (fs ++ ks.map fun q => sCon q.2)) else none
        | none => none
      | some (.blt .isinstance) => match args with
        | [a, .Name T _] => match if glB I.sc T = true then I.lk T else none with
          | some (.blt b) => match (rec I a).e, biTy b with
            | some fa, some ty => some (sUn (gIsi ty) fa)
            | _, _ => none
          | _ => none
        | _ => none
      | some (.blt b) => match args with
        | a :: r => match seqM (fun v => (rec I v).e) (a :: r), biGN b (decide (posKey cpos ∈ I.new)) (a :: r).length with
          | some fs, some g => if I.hot = false ∨ biHot b = true then some (sCall g fs) else none
          | _, _ => none
        | [] => none
      | _ => none
    else none
  | .Call (.Attribute o name apos) [a] [] cpos => if okBase o = true ∧ notStar a = true ∧ (apos.endLine == cpos.line) = true then
      if name = ("index" : Str) then
        match conT I o with
        | some ys => (rec I a).e.map fun fa => sUn (gIndexC ys) fa
        | none => match (rec I o).e, (rec I a).e with
          | some fo, some fa => some (sMetL gIndex fo [fa])
          | _, _ => none
      else if name = ("get" : Str) then match (rec I o).e, (rec I a).e with
        | some fo, some fa => some (sMetD gGet fo [fa])
        | _, _ => none
      else
      match (rec I o).e, (rec I a).e, metG name with
      | some fo, some fa, some g => some (g fo fa)
      | _, _, _ => none
    else none
  | .Call (.Attribute o name apos) [] [] cpos => if okBase o = true ∧ (apos.endLine == cpos.line) = true ∧ name = ("pop" : Str) then (rec I o).e.map fun fo => sMetO gPop0 fo [] else none
  | .Call (.Attribute o name apos) [a, b] [] cpos => if okBase o = true ∧ (notStar a = true ∧ notStar b = true) ∧ (apos.endLine == cpos.line) = true ∧ name = ("get" : Str) then
      match (rec I o).e, (rec I a).e, (rec I b).e with
      | some fo, some fa, some fb => some (sMetD gGet fo [fa, fb])
      | _, _, _ => none
    else none
  | .Call (.Name x _) (a :: args) (kw :: kws) _ => if okName x = true ∧ (a :: args).all notStar = true then
      match if glB I.sc x = true then I.lk x else none with
      | some (.fk n ks) => if (kw :: kws).map (·.arg) = ks.map (fun q => some q.1) then match seqM (fun v => (rec I v).e) (a :: args), seqM (fun (v : Keyword) => (rec I v.value).e) (kw :: kws) with
          | some fs, some gs => if fs.length = n then some (sCall (call x) (fs ++ gs)) else none
          | _, _ => none
        else none
      | some (.blt .sorted) => sortKw call rec I a args (kw :: kws)
      | _ => none
    else none
  | .Dict [] [] pos => some (if posKey pos ∈ I.new then sDctN else sDct0)
  | .ListComp elt [⟨tg, it, ifs, 0⟩] scope pos => if (blkC I.N I.sc scope (ownOf I.N scope.names) = true ∧ notSet it = true) ∧ I.hot = false then
      match tgOf (inBlk I scope) tg, itOf rec I tg it, (rec (inBlk I scope) elt).e with
      | some (is, t), some fi, some fe => if (is.all fun i => decide (i ∈ (ownOf I.N scope.names).map (·.2))) = true then
          match ifs with
          | [] => some (if posKey pos ∈ I.new then sCompN ((ownOf I.N scope.names).map (·.2)) fi t sYes fe else sComp ((ownOf I.N scope.names).map (·.2)) fi t sYes fe)
          | [c] => (rec (inBlk I scope) c).t.map fun tc => if posKey pos ∈ I.new then sCompN ((ownOf I.N scope.names).map (·.2)) fi t tc fe else sComp ((ownOf I.N scope.names).map (·.2)) fi t tc fe
          | _ => none
        else none
      | _, _, _ => none
    else none
  | _ => none
def testOf (rec : Inf → Expr → CR) (self : Option SE) (I : Inf) (e : Expr) : Option ST := match e with
  | .Compare _ [_] [_] _ => self.map sTst
  | .UnaryOp .Not a _ => (rec I a).t.map sNot
  | .BoolOp op vs _ => match seqM (fun v => (rec I v).t) vs with
    | some fs => boolTs op fs
    | none => none
  | e => if plainTest e = true then self.map sTru else none
/-- calls whose value goes on as data -/
def frz (I : Inf) (e : Expr) (f : SE) : SE := match e with
  | .Call _ _ _ pos => if (posKey pos, 9999) ∈ I.fz then sFr f else f
  | _ => f
def tsOf (rec : Inf → Expr → CR) (I : Inf) : List Expr → Option ST
  | [] => some sYes
  | [c] => (rec I c).t
  | _ => none
/-- {k: v}, a < b < c, list(range(n)) -/
def xtraOf (rec : Inf → Expr → CR) (I : Inf) (e : Expr) : Option SE := match e with
  | .Attribute o n _ => if okBase o = true then (rec I o).e.map (sUn (gFld I.xt n)) else none
  | .Call (.Name x _) [a, .Name T _] [] _ => if notStar a = true ∧ okName T = true ∧ glB I.sc T = true then
      match if glB I.sc x = true then I.lk x else none with
      | some (.blt .isinstance) => match I.xt.lookup T with
        | some _ => (rec I a).e.map (sUn (gIsE I.xt T))
        | none => match I.lk T with
          | some (.blt .vale) => (rec I a).e.map (sUn (gIsE I.xt "ValueError"))
          | _ => none
      | _ => none
    else none
  | .Dict [some k] [v] pos => if posKey pos ∈ I.new then match (rec I k).e, (rec I v).e with
      | some fk, some fv => some (sDct1 fk fv)
      | _, _ => none
    else none
  | .Compare a [op, op'] [b, c] _ => if notSet c = true then match (rec I a).e, (rec I b).e, (rec I c).e, cmpG op, cmpG op' with
      | some fa, some fb, some fc, some g, some g' => some (sChain g g' fa fb fc)
      | _, _, _, _, _ => none
    else none
  | .BinOp a .Add b pos => if posKey pos ∈ I.new then match (rec I a).e, (rec I b).e with
      | some fa, some fb => some (sBin gAddN fa fb)
      | _, _ => none
    else none
  | .Call (.Name x _) [.Call (.Name y _) [a] [] _] [] _ => if notStar a = true ∧ I.hot = false then
      match (if glB I.sc x = true then I.lk x else none), (if glB I.sc y = true then I.lk y else none) with
      | some (.blt .list), some (.blt .range) => (rec I a).e.map sLrg
      | _, _ => none
    else none
  | .ListComp elt [⟨tg, it, ifs, 0⟩, ⟨tg1, it1, ifs1, 0⟩] scope _ => if (blkC I.N I.sc scope (ownOf I.N scope.names) = true ∧ notSet it = true ∧ notSet it1 = true) ∧ I.hot = false then
      match tgOf (inBlk I scope) tg, itOf rec I tg it, tgOf (inBlk I scope) tg1, itOf rec (inBlk I scope) tg1 it1, (rec (inBlk I scope) elt).e with
      | some (is, t), some fi, some (is1, t1), some fi1, some fe => if (is.all fun i => decide (i ∈ (ownOf I.N scope.names).map (·.2))) = true ∧ (is1.all fun i => decide (i ∈ (ownOf I.N scope.names).map (·.2))) = true then
          match tsOf rec (inBlk I scope) ifs, tsOf rec (inBlk I scope) ifs1 with
          | some c, some c1 => some (sComp2 ((ownOf I.N scope.names).map (·.2)) is1 fi t c fi1 t1 c1 fe)
          | _, _ => none
        else none
      | _, _, _, _, _ => none
    else none
  | _ => none
def xtraT (rec : Inf → Expr → CR) (I : Inf) (e : Expr) : Option ST := match e with
  | .Compare a [op, op'] [b, c] _ => if notSet c = true then match (rec I a).e, (rec I b).e, (rec I c).e, cmpG op, cmpG op' with
      | some fa, some fb, some fc, some g, some g' => some (sTst (sChain g g' fa fb fc))
      | _, _, _, _, _ => none
    else none
  | _ => none
/-- e.replace("..", "..") -/
def repE (rec : Inf → Expr → CR) (I : Inf) (e : Expr) : Option SE := match e with
  | .Call (.Attribute o n p1) [.Constant (.str y) _ _, .Constant (.str z) _ _] [] p2 => if (n = ("replace" : Str) ∧ okBase o = true ∧ (p1.endLine == p2.line) = true) ∧ ((y == z) = false ∧ 1 ≤ y.length ∧ PySem.PyData.strOk z = true) then (rec I o).e.map (sUn (dat1 (dRep y z))) else none
  | _ => none
def elR (rec : Inf → Expr → CR) (I : Inf) (e : Expr) : Option SE := match repE rec I e with
  | some f => some f
  | none => (rec I e).e
/-- dicts of lists of its own -/
def dclE (rec : Inf → Expr → CR) (I : Inf) (e : Expr) : Option SE := match e with
  | .Dict [] [] pos => if (posKey pos, 7777) ∈ I.fz then some sDctL else none
  | .Call (.Attribute (.Call (.Attribute d n1 p1) [k, .List [] _] [] p2) n2 p3) [x] [] p4 => if (n1 = ("setdefault" : Str) ∧ n2 = ("append" : Str)) ∧ (okBase d = true ∧ notStar k = true ∧ notStar x = true) ∧ ((p1.endLine == p2.line) = true ∧ (p3.endLine == p4.line) = true) then match (rec I d).e, (rec I k).e, (rec I x).e with
      | some fd, some fk, some fx => some (sSdA fd fk fx)
      | _, _, _ => none
    else none
  | .Call (.Name x _) [.Call (.Name y _) [.Call (.Attribute d n1 p1) [k, .List [] _] [] p2] [] _] [] _ => if (n1 = ("get" : Str) ∧ okBase d = true ∧ notStar k = true) ∧ (p1.endLine == p2.line) = true ∧ I.hot = false then
      match (if glB I.sc x = true then I.lk x else none), (if glB I.sc y = true then I.lk y else none), (rec I d).e, (rec I k).e with
      | some (.blt .tuple), some (.blt .reversed), some fd, some fk => some (sRvG fd fk)
      | _, _, _, _ => none
    else none
  | .List (.BinOp a .Add (.Constant (.str c) _ _) _ :: es) pos => if (PySem.PyData.strOk c = true ∧ es.all notStar = true) ∧ (posKey pos ∉ I.new ∧ (es.any fun v => (repE rec I v).isSome) = true) then match (rec I a).e, seqM (elR rec I) es with
      | some fa, some fs => some (sCall gLst (sBin gAdd fa (sCon (.str c)) :: fs))
      | _, _ => none
    else none
  | _ => none
def exprX (call : Str → GL) (rec : Inf → Expr → CR) (I : Inf) (e : Expr) : Option SE := match dclE rec I e with
  | some f => some f
  | none => match xtraOf rec I e with
    | some f => some f
    | none => exprOf call rec I e
def testX (call : Str → GL) (rec : Inf → Expr → CR) (I : Inf) (e : Expr) : Option ST := match xtraT rec I e with
  | some f => some f
  | none => match testOf rec (exprOf call rec I e) I e with
    | some f => some f
    | none => if plainTest e = true then (xtraOf rec I e).map sTru else none
def cE (call : Str → GL) : Nat → Inf → Expr → CR
  | 0, _, _ => ⟨none, none⟩
  | n + 1, I, e => ⟨(exprX call (cE call n) I e).map (frz I e), testX call (cE call n) I e⟩
end L2.Pv

set_option Elab.async false
set_option linter.all false
set_option maxRecDepth 100000
namespace L2.Pv
open PySem PySem.Spec PyProof.Rows L2

def Sound (call : Str → GL) (k : Nat) (rec : Inf → Expr → CR) : Prop :=
  ∀ (I : Inf) (X : Cx) (W : WX) (e : Expr), Cok X W I call k → (∀ f, (rec I e).e = some f → PE X e (LE X.F W f)) ∧ ∀ t, (rec I e).t = some t → PT X e (LT X.F W t)

/-! ### calls of defs with keyword-only parameters -/
theorem sArgs_app {Γ : Env} : ∀ {fs gs : List SE} {S : Sto}, sArgs (fs ++ gs) Γ S = (sArgs fs Γ S).bind fun vs S1 => (sArgs gs Γ S1).bind fun ws S2 => .ok (vs ++ ws) S2
  | [], gs, S => by
    show sArgs gs Γ S = (sArgs gs Γ S).bind fun ws S2 => .ok ws S2
    cases sArgs gs Γ S <;> rfl
  | f :: fs, gs, S => by
    show ((f Γ S).bind fun v S1 => (sArgs (fs ++ gs) Γ S1).bind fun vs S2 => .ok (v :: vs) S2) = ((f Γ S).bind fun v S1 => (sArgs fs Γ S1).bind fun vs S2 => .ok (v :: vs) S2).bind _
    cases f Γ S with
    | bad => rfl
    | exc c l S1 => rfl
    | ok v S1 =>
      show (sArgs (fs ++ gs) Γ S1).bind _ = ((sArgs fs Γ S1).bind fun vs S2 => .ok (v :: vs) S2).bind _
      rw [sArgs_app]
      cases sArgs fs Γ S1 with
      | bad => rfl
      | exc c l S1 => rfl
      | ok vs S2 =>
        show ((sArgs gs Γ S2).bind _).bind _ = (sArgs gs Γ S2).bind _
        cases sArgs gs Γ S2 <;> rfl
theorem sArgs_con {Γ : Env} {S : Sto} : ∀ {ks : List (Str × PyData)}, sArgs (ks.map fun q => sCon q.2) Γ S = .ok (ks.map fun q => .d q.2) S
  | [] => rfl
  | q :: ks => by
    show (sArgs (ks.map fun q => sCon q.2) Γ S).bind _ = _
    rw [sArgs_con]
    rfl
theorem con_vr {K : Fx} {H : Hp} {ρ : Pl} : ∀ {ks : List (Str × PyData)} {dvs : List V}, RpL K HN [] dvs (ks.map (·.2)) → VrL K H ρ dvs (ks.map fun q => .d q.2)
  | [], _, h => by cases h; exact .nil
  | q :: ks, _, h => by
    cases h with
    | cons a b => exact .cons (Rp.cov Cov.base _ _ a) (con_vr b)
theorem _root_.L2.PK.weak {X : Cx} {e : List Keyword} {t t' : TA} (h : PK X e t) (w : ∀ σ H Q, t' σ H Q → t σ H Q) : PK X e t' := ⟨fun p pins s σ H Q I hq => h.run p pins s σ H Q I (w _ _ _ hq)⟩
section
variable {X : Cx} {W : WX} {hot : Bool} {k n : Nat} {f : Addr} {fd : FuncData} {ps : List Str} {g : GL} {x : Str} {p pos : Pos} {a : Expr} {es : List Expr} {kws : List Keyword} {fs gs : List SE} {ks : List (Str × PyData)}
theorem le_callD (F : FnX hot X.prog X.w X.K X.mg X.base k f fd ps (n + ks.length) g) (hh : HotOk hot X k) (tk : L2N.Takes X W) (hg : Gl X x) (hm : X.mg x = some (.ref f)) (hk : PySem.W.keepIn X.K (.ref f) = true) (B : FkB X.F fd ps n ks) (hl : fs.length = n)
    (ha : PA X (a :: es) (LA X.F W (sArgs fs))) (hdb : (x == ("__debug__" : Str)) = false) (he : starEach (a :: es) X.env = (false, eval a X.env) :: starEach es X.env) (hpl : (backTo pos (starEach es X.env)).any (·.1) = false) :
    PE X (.Call (.Name x p) (a :: es) [] pos) (LE X.F W (sCall g (fs ++ ks.map fun q => sCon q.2))) := by
  obtain ⟨dvs, ds, h1, h2, h3⟩ := B.df
  refine ⟨fun pins s σ H Q I h => ?_⟩
  obtain ⟨Γ, S, ρ, hS, hE, hp⟩ := h
  unfold sCall at hp
  rw [sArgs_app] at hp
  have hA : LA X.F W (sArgs fs) σ H fun xs H1 => SpD X.F (n + ks.length) g (xs ++ dvs) H1 Q (WE W σ) := by
    refine ⟨Γ, S, ρ, hS, hE, ?_⟩
    cases e1 : sArgs fs Γ S with
    | bad => rw [e1] at hp; exact hp.elim
    | exc c l S1 => rw [e1] at hp; exact hp
    | ok vs S1 =>
      rw [e1] at hp
      have hp : Pst X.F (WE W σ) (Vr X.F) ρ H (((sArgs (ks.map fun q => sCon q.2) Γ S1).bind fun ws S2 => .ok (vs ++ ws) S2).bind g) Q := hp
      rw [sArgs_con] at hp
      intro ρ1 H1 xs x1 hS1 q1
      have hlen := len_args (K := X.F) e1
      have hxs := Paired.length q1
      have hd := h2.length
      rw [List.length_map] at hd
      exact ⟨by rw [List.length_append]; omega, ρ1, S1, _, hS1, pairedAppend q1 (con_vr h2), Pst.mono x1 hp⟩
  refine wpAny_Call_Name_kw (ld_glob I hg hm ?_ hdb)
  refine PySem.W.callWith_K (h₀ := X.base) I.ok.mod.kin hk (thn (ha.run pos pins s σ H _ I hA) fun us s1 ⟨vs, H1, I1, r, q⟩ => ⟨I1.kIn, ?_⟩) he hpl
  exact run_fnX F hh tk h3 h1 I1 r q
/-- a call as such, with any arguments -/
theorem run_fnXg (F : FnX hot X.prog X.w X.K X.mg X.base k f fd ps n g) (hh : HotOk hot X k) (tk : L2N.Takes X W) {pins : List (Addr × Obj)} {σ : L2.St} {H : Hp} {s : Shared} {Q : VK} {as us : List Value} {kv : List (Str × Value)} {vs : List V} (I : Inv X pins σ H s) (hb : BindsTo s fd ⟨as, kv⟩ (ps.zip us)) (r2 : Vals vs us)
    (h : SpD X.F n g vs H Q (WE W σ)) : wpAny (model X.prog X.w) X.A (call (.ref f) as kv) (EP X pins σ Q) X.xe s := by
  cases hot with
  | false =>
    have F : FnOk X.prog X.w X.K X.mg X.base (L2N.CX X.prog X.w) k f fd ps (SpD ⟨⟨X.K, X.w⟩, X.mg, none⟩ n g) := F
    rw [F_calm (hh.cool rfl).1] at h
    refine wpAny_call (codeAny_mono (F.run X.A X.stack s H ⟨as, kv⟩ us vs Q (WE W σ) hh.room0 I.env0 hb r2 h) fun r s' hq => ?_)
    cases r with
    | error e => exact L2N.passAt tk σ pins H s e s' I hq
    | ok fl =>
      cases fl with
      | ret u => exact I.after hq
      | next => exact False.elim hq
      | brk => exact False.elim hq
      | cont => exact False.elim hq
  | true =>
    have F : FnHp X.prog X.w X.K X.mg X.base (L2N.CX X.prog X.w) k f fd ps (fun p => SpD ⟨⟨X.K, X.w⟩, X.mg, some (hxo p)⟩ n g) := F
    obtain ⟨hc, p, hp, hot⟩ := hh.warm rfl
    rw [F_hot hc hp] at h
    have hpm : p ∈ X.pn := List.mem_of_mem_head? hp
    have P1 := I.pin p (List.mem_append_left _ hpm)
    have hpin : L2H.PinOk X.stack H s p := ⟨P1.1, P1.2.1, fun hm => (List.mem_cons.mp (I.stkSub p.1 hm)).elim P1.2.2.1 P1.2.2.2.1, P1.2.2.2.2⟩
    refine wpAny_call (codeAny_mono (F.run X.A X.stack s H ⟨as, kv⟩ us vs Q (WE W σ) p hh.room hot hpin I.env0 hb r2 h) fun r s' hq => ?_)
    cases r with
    | error e => exact L2N.passAt tk σ pins H s e s' I hq
    | ok fl =>
      cases fl with
      | ret u => exact I.after hq
      | next => exact False.elim hq
      | brk => exact False.elim hq
      | cont => exact False.elim hq
theorem lk_nil : PK X [] (LA X.F W (sArgs [])) := pk_nil.weak fun σ H Q ⟨Γ, S, ρ, hS, hE, hp⟩ => hp ρ H [] (Ext.refl hS) hS .nil
theorem lk_cons {nm : Option Str} {kpos : Pos} {fa : SE} (ha : PE X a (LE X.F W fa)) (hr : PK X kws (LA X.F W (sArgs fs))) : PK X (⟨nm, a, kpos⟩ :: kws) (LA X.F W (sArgs (fa :: fs))) :=
  (pk_cons ha hr).weak fun σ H Q ⟨Γ, S, ρ, hS, hE, hp⟩ => by
    refine ⟨Γ, S, ρ, hS, hE, Pst.bind hp fun va S1 ρ1 H1 x _ x1 hS1 q1 hp => ?_⟩
    refine ⟨Γ, S1, ρ1, hS1, hE.ext x1, Pst.bind hp fun vs S2 ρ2 H2 xs _ x2 hS2 q2 hp => ?_⟩
    exact hp ρ2 H2 _ (Ext.refl hS2) hS2 (.cons (q1.ext x2) q2)
theorem kw_names (pos : Pos) (env : PySem.Env) : ∀ kws : List Keyword, (backToKw pos (keywordEach kws env)).map (·.1) = kws.map (·.arg)
  | [] => rfl
  | ⟨nm, v, kp⟩ :: kws => by
    show nm :: (backToKw pos (keywordEach kws env)).map (·.1) = _
    rw [kw_names pos env kws]
    rfl
theorem le_callKw (F : FnX hot X.prog X.w X.K X.mg X.base k f fd ps (n + ks.length) g) (hh : HotOk hot X k) (tk : L2N.Takes X W) (hg : Gl X x) (hm : X.mg x = some (.ref f)) (hk : PySem.W.keepIn X.K (.ref f) = true) (B : FkB X.F fd ps n ks) (hl : fs.length = n) (hkw : kws.map (·.arg) = ks.map fun q => some q.1) (hlg : gs.length = kws.length)
    (ha : PA X (a :: es) (LA X.F W (sArgs fs))) (hb : PK X kws (LA X.F W (sArgs gs))) (hdb : (x == ("__debug__" : Str)) = false) (he : starEach (a :: es) X.env = (false, eval a X.env) :: starEach es X.env) (hpl : (backTo pos (starEach (a :: es) X.env)).any (·.1) = false) :
    PE X (.Call (.Name x p) (a :: es) kws pos) (LE X.F W (sCall g (fs ++ gs))) := by
  have hn := (kw_names pos X.env kws).trans hkw
  have hlk : kws.length = ks.length := by simpa using congrArg List.length hkw
  have hn2 : ∀ (l : List (Option Str × Sem Value)) (ks : List (Str × PyData)), l.map (·.1) = ks.map (fun q => some q.1) → l.all (·.1.isSome) = true ∧ l.filterMap (·.1) = ks.map (·.1) ∧ l.any (·.1.isNone) = false := by
    intro l
    induction l with
    | nil =>
      intro ks e
      cases ks with
      | nil => exact ⟨rfl, rfl, rfl⟩
      | cons q r => cases e
    | cons q l ih =>
      intro ks e
      cases ks with
      | nil => cases e
      | cons q' r =>
        rw [List.map_cons, List.map_cons, List.cons.injEq] at e
        obtain ⟨i1, i2, i3⟩ := ih r e.2
        refine ⟨by rw [List.all_cons, e.1, i1]; rfl, by rw [List.filterMap_cons, e.1, i2]; rfl, by rw [List.any_cons, e.1, i3]; rfl⟩
  obtain ⟨m1, m2, m3⟩ := hn2 _ ks hn
  refine ⟨fun pins s σ H Q I h => ?_⟩
  obtain ⟨Γ, S, ρ, hS, hE, hp⟩ := h
  unfold sCall at hp
  rw [sArgs_app] at hp
  have hA : LA X.F W (sArgs fs) σ H fun xs H1 => LA X.F W (sArgs gs) σ H1 fun ys H2 => xs.length = n ∧ ys.length = (ks.map (·.1)).length ∧ SpD X.F (n + ks.length) g (xs ++ ys) H2 Q (WE W σ) := by
    refine ⟨Γ, S, ρ, hS, hE, ?_⟩
    cases e1 : sArgs fs Γ S with
    | bad => rw [e1] at hp; exact hp.elim
    | exc c l S1 => rw [e1] at hp; exact hp
    | ok vs S1 =>
      rw [e1] at hp
      have hp : Pst X.F (WE W σ) (Vr X.F) ρ H (((sArgs gs Γ S1).bind fun ws S2 => .ok (vs ++ ws) S2).bind g) Q := hp
      intro ρ1 H1 xs x1 hS1 q1
      refine ⟨Γ, S1, ρ1, hS1, hE.ext x1, ?_⟩
      replace hp := Pst.mono x1 hp
      cases e2 : sArgs gs Γ S1 with
      | bad => rw [e2] at hp; exact hp.elim
      | exc c l S2 => rw [e2] at hp; exact hp
      | ok ws S2 =>
        rw [e2] at hp
        intro ρ2 H2 ys x2 hS2 q2
        have l1 := len_args (K := X.F) e1
        have l2 := len_args (K := X.F) e2
        have l3 := Paired.length q1
        have l4 := Paired.length q2
        exact ⟨by omega, by rw [List.length_map]; omega, by rw [List.length_append]; omega, ρ2, S2, _, hS2, pairedAppend (q1.ext x2) q2, Pst.mono x2 hp⟩
  refine wpAny_Call_Name_kw (ld_glob I hg hm ?_ hdb)
  refine PySem.W.callWith_KW (h₀ := X.base) I.ok.mod.kin hk m1 (thn (ha.run pos pins s σ H _ I hA) fun us s1 ⟨vs, H1, I1, r, q⟩ => ?_) (by rw [hpl, m3]; rfl) he
  refine thn (hb.run pos pins s1 σ H1 _ I1 q) fun ws s2 ⟨zs, H2, I2, rz, l1, l2, q2⟩ => ⟨I2.kIn, ?_⟩
  rw [m2]
  exact run_fnXg F hh tk I2 (B.kw.to s2 us ws I2.kIn (r.length.symm.trans l1) (rz.length.symm.trans l2)) (B.kw.rel r rz) q2
end

section
variable {X : Cx} {W : WX} {I : Inf} {call : Str → GL} {k : Nat} {rec : Inf → Expr → CR}
theorem Cok.u1 (C : Cok X W I call k) : X.A.units + 64 < cLine := by
  have := C.hot.room.un
  omega
theorem Cok.calm (C : Cok X W I call k) (h : I.hot = false) : X.calm = true := (C.hot.cool h).1
theorem bin_ok (C : Cok X W I call k) {op : Operator} {g : G2} (h : binG op = some g) : OpR X (binaryOp op) (rD X.F g) := by
  cases op <;> cases h
  · exact opd_gAdd
  · exact opd_sub
  · exact opd_mul
  · exact opd_mod
  · exact opd_pow
  · exact opd_fdiv
theorem cmp_ok (C : Cok X W I call k) {op : CmpOp} {g : G2} (h : cmpG op = some g) : OpR X (compareOp op) (rD X.F g) := by
  cases op <;> cases h
  · exact opd_eq C.u1
  · exact opd_ne C.u1
  · exact opd_lt C.u1
  · exact opd_le C.u1
  · exact opd_gt C.u1
  · exact opd_ge C.u1
  · exact opd_is
  · exact opd_isnot
  · exact opd_in C.u1
  · exact opd_notIn C.u1
theorem bin_nx {op : Operator} {g : G2} (h : binG op = some g) : NX2 g := by
  cases op <;> cases h
  · exact nx_gAdd
  · exact nx_dat2 _
  · exact nx_dat2 _
  · exact nx_dat2 _
  · exact nx_dat2 _
  · exact nx_dat2 _
theorem cmp_nx {op : CmpOp} {g : G2} (h : cmpG op = some g) : NX2 g := by
  cases op <;> cases h
  · exact nx_cmp2 _
  · exact nx_cmp2 _
  · exact nx_cmp2 _
  · exact nx_cmp2 _
  · exact nx_cmp2 _
  · exact nx_cmp2 _
  · exact nx_isN _
  · exact nx_isN _
  · exact nx_cmp2 _
  · exact nx_cmp2 _
theorem seqM_cons {α β : Type} {f : α → Option β} {a : α} {r : List α} {l : List β} (h : seqM f (a :: r) = some l) : ∃ b bs, f a = some b ∧ seqM f r = some bs ∧ l = b :: bs := by
  unfold seqM at h
  split at h
  · rename_i b e
    obtain ⟨bs, h1, h2⟩ := Option.map_eq_some_iff.mp h
    exact ⟨b, bs, e, h1, h2.symm⟩
  · cases h
theorem args_ok (hr : Sound call k rec) (C : Cok X W I call k) : ∀ {es : List Expr} {fs : List SE}, es.all notStar = true → seqM (fun v => (rec I v).e) es = some fs → PA X es (LA X.F W (sArgs fs))
  | [], fs, _, h => by
    cases h
    exact la_nil
  | e :: es, fs, hs, h => by
    obtain ⟨b, bs, h1, h2, rfl⟩ := seqM_cons h
    have hs' : notStar e = true ∧ es.all notStar = true := by simpa using hs
    exact la_cons ((hr I X _ e C).1 b h1) (args_ok hr C hs'.2 h2) (star_cons hs'.1)
theorem kws_ok (hr : Sound call k rec) (C : Cok X W I call k) : ∀ {kws : List Keyword} {gs : List SE}, seqM (fun (v : Keyword) => (rec I v.value).e) kws = some gs → PK X kws (LA X.F W (sArgs gs)) ∧ gs.length = kws.length
  | [], gs, h => by
    cases h
    exact ⟨lk_nil, rfl⟩
  | e :: es, fs, h => by
    obtain ⟨b, bs, h1, h2, rfl⟩ := seqM_cons h
    obtain ⟨h3, h4⟩ := kws_ok hr C h2
    obtain ⟨nm, v, kp⟩ := e
    exact ⟨lk_cons ((hr I X _ v C).1 b h1) h3, by show _ + 1 = _ + 1; rw [h4]⟩
theorem boolEs_ok (hr : Sound call k rec) (C : Cok X W I call k) {op : BoolOp} {pos : Pos} : ∀ {es : List Expr} {fs : List SE} {f : SE}, seqM (fun v => (rec I v).e) es = some fs → boolEs op fs = some f → PE X (.BoolOp op es pos) (LE X.F W f)
  | [], fs, f, h, h2 => by
    cases h
    cases h2
  | [e], fs, f, h, h2 => by
    obtain ⟨b, bs, h1, h3, rfl⟩ := seqM_cons h
    cases h3
    cases h2
    exact le_oneV ((hr I X _ e C).1 _ h1)
  | e :: e' :: es, fs, f, h, h2 => by
    obtain ⟨b, bs, h1, h3, rfl⟩ := seqM_cons h
    obtain ⟨b', bs', h4, h5, rfl⟩ := seqM_cons h3
    unfold boolEs at h2
    split at h2
    · rename_i g e1
      cases h2
      exact le_andV ((hr I X _ e C).1 _ h1) (boolEs_ok hr C h3 e1)
    · rename_i g e1
      cases h2
      exact le_orV ((hr I X _ e C).1 _ h1) (boolEs_ok hr C h3 e1)
    · cases h2
theorem boolTs_ok (hr : Sound call k rec) (C : Cok X W I call k) {op : BoolOp} {pos : Pos} : ∀ {es : List Expr} {fs : List ST} {f : ST}, seqM (fun v => (rec I v).t) es = some fs → boolTs op fs = some f → PW X (.BoolOp op es pos) (LT X.F W f)
  | [], fs, f, h, h2 => by
    cases h
    cases h2
  | [e], fs, f, h, h2 => by
    obtain ⟨b, bs, h1, h3, rfl⟩ := seqM_cons h
    cases h3
    cases h2
    cases op
    · exact lw_and1 ((hr I X _ e C).2 _ h1)
    · exact lw_or1 ((hr I X _ e C).2 _ h1)
  | e :: e' :: es, fs, f, h, h2 => by
    obtain ⟨b, bs, h1, h3, rfl⟩ := seqM_cons h
    obtain ⟨b', bs', h4, h5, rfl⟩ := seqM_cons h3
    unfold boolTs at h2
    split at h2
    · rename_i g e1
      cases h2
      exact lw_and ((hr I X _ e C).2 _ h1) (boolTs_ok hr C h3 e1)
    · rename_i g e1
      cases h2
      exact lw_or ((hr I X _ e C).2 _ h1) (boolTs_ok hr C h3 e1)
    · cases h2
theorem part_ok (hr : Sound call k rec) (C : Cok X W I call k) {o : Option Expr} {f : Option SE} (h : partOf rec I o = some f) : PO X o (LO X.F W f) := by
  cases o with
  | none =>
    cases h
    exact lo_none
  | some e =>
    obtain ⟨f0, h1, rfl⟩ := Option.map_eq_some_iff.mp (show (rec I e).e.map some = some f from h)
    exact lo_some ((hr I X _ e C).1 _ h1)
theorem glob_of (C : Cok X W I call k) {x : Str} {e : GE} (h : (if glB I.sc x = true then I.lk x else none) = some e) : Gl X x ∧ GOk X I.hot call k x e := by
  split at h
  · rename_i hg
    refine ⟨gl_of C hg, ?_⟩
    unfold Inf.lk at h
    split at h
    · rename_i hh
      rw [hh]
      exact C.globH x e h
    · rename_i hh
      rw [show I.hot = false by simpa using hh]
      exact C.glob x e h
  · cases h
theorem nx_tuple0 : NX1 gTuple := by
  intro a S
  unfold gTuple
  repeat' split
  all_goals trivial
/-- the built-in functions -/
theorem bi_call (C : Cok X W I call k) (hr : Sound call k rec) {b : Bi} {g : GL} {x : Str} {p pos : Pos} {a : Expr} {r : List Expr} {fs : List SE} (hb : biG b = some g) (hg : Gl X x) (hk : GOk X I.hot call k x (.blt b)) (hw : I.hot = false ∨ biHot b = true) (ho : okName x = true) (hs : (a :: r).all notStar = true)
    (hf : seqM (fun v => (rec I v).e) (a :: r) = some fs) : PE X (.Call (.Name x p) (a :: r) [] pos) (LE X.F W (sCall g fs)) := by
  obtain ⟨hm, e⟩ := hk
  obtain ⟨o1, o2, o3⟩ := ok_of ho
  have hs' : notStar a = true ∧ r.all notStar = true := by simpa using hs
  have ha := args_ok hr C hs hf
  have hst := star_cons (env := X.env) (es := r) hs'.1
  have hbk := back_any (env := X.env) pos hs'.2
  have hcalm : biHot b = false → X.calm = true := fun z => C.calm (hw.resolve_right (by rw [z]; exact Bool.false_ne_true))
  cases b <;> cases hb <;> subst e
  · exact le_callB (nx_arg1 nx_len) cd_len hg hm (by decide +kernel) ha o3 o1 hst hbk
  · exact le_callB (nx_arg1 (nx_dat1 _)) cd_abs hg hm (by decide +kernel) ha o3 o1 hst hbk
  · exact le_callTy (nx_arg1 (nx_dat1 _)) cd_int hg hm (by decide +kernel) ha o3 o1 hst hbk
  · exact le_callB (nx_arg2 (nx_dat2 _)) (cd_max (hcalm rfl)) hg hm (by decide +kernel) ha o3 o1 hst hbk
  · exact le_callB (nx_arg2 (nx_dat2 _)) (cd_min (hcalm rfl)) hg hm (by decide +kernel) ha o3 o1 hst hbk
  · exact le_callTy (nx_arg1 (nx_dat1 _)) cd_str hg hm (by decide +kernel) ha o3 o1 hst hbk
  · exact le_callB (nx_arg1 (nx_dat1 _)) cd_ord hg hm (by decide +kernel) ha o3 o1 hst hbk
  · exact le_callTy (nx_arg1 nx_list) (cd_list (hcalm rfl)) hg hm (by decide +kernel) ha o3 o1 hst hbk
  · exact le_callTy (nx_arg1 nx_tuple0) cd_tuple hg hm (by decide +kernel) ha o3 o1 hst hbk
  · exact le_callB (nx_arg1 nx_all) (cd_all (hcalm rfl)) hg hm (by decide +kernel) ha o3 o1 hst hbk
  · exact le_callB (nx_arg1 nx_any) (cd_any (hcalm rfl)) hg hm (by decide +kernel) ha o3 o1 hst hbk
  · exact le_callB (nx_arg1 nx_sort) (cd_sorted C.u1) hg hm (by decide +kernel) ha o3 o1 hst hbk
  · exact le_callB (nx_arg1 nx_sum) (cd_sum (hcalm rfl)) hg hm (by decide +kernel) ha o3 o1 hst hbk
theorem bi_callN (C : Cok X W I call k) (hr : Sound call k rec) {b : Bi} {nw : Bool} {n : Nat} {g : GL} {x : Str} {p pos : Pos} {a : Expr} {r : List Expr} {fs : List SE} (hb : biGN b nw n = some g) (hg : Gl X x) (hk : GOk X I.hot call k x (.blt b)) (hw : I.hot = false ∨ biHot b = true) (ho : okName x = true) (hs : (a :: r).all notStar = true)
    (hf : seqM (fun v => (rec I v).e) (a :: r) = some fs) : PE X (.Call (.Name x p) (a :: r) [] pos) (LE X.F W (sCall g fs)) := by
  unfold biGN at hb
  split at hb
  · cases hb
    obtain ⟨hm, e⟩ := hk
    obtain ⟨o1, o2, o3⟩ := ok_of ho
    have hs' : notStar a = true ∧ r.all notStar = true := by simpa using hs
    subst e
    exact le_callTy (nx_arg1 nx_listN) cd_listN hg hm (by decide +kernel) (args_ok hr C hs hf) o3 o1 (star_cons hs'.1) (back_any _ hs'.2)
  · cases hb
    obtain ⟨hm, e⟩ := hk
    obtain ⟨o1, o2, o3⟩ := ok_of ho
    have hs' : notStar a = true ∧ r.all notStar = true := by simpa using hs
    subst e
    exact le_callB (nx_arg1 nx_max1) (cd_max1 (C.calm (hw.resolve_right Bool.false_ne_true))) hg hm (by decide +kernel) (args_ok hr C hs hf) o3 o1 (star_cons hs'.1) (back_any _ hs'.2)
  · cases hb
    obtain ⟨hm, e⟩ := hk
    obtain ⟨o1, o2, o3⟩ := ok_of ho
    have hs' : notStar a = true ∧ r.all notStar = true := by simpa using hs
    subst e
    exact le_callB (nx_arg1 nx_min1) (cd_min1 (C.calm (hw.resolve_right Bool.false_ne_true))) hg hm (by decide +kernel) (args_ok hr C hs hf) o3 o1 (star_cons hs'.1) (back_any _ hs'.2)
  · exact bi_call C hr hb hg hk hw ho hs hf
theorem bi_ty {b : Bi} {ty : String} (h : biTy b = some ty) : ty ∈ isiTs ∧ bootBuiltins (biName b) = some (.type ty) := by
  cases b <;> cases h <;> exact ⟨by decide, by decide +kernel⟩
theorem met_ok (hu : X.A.units + 64 < cLine) {o a : Expr} {name : Str} {apos cpos : Pos} {fo fa : SE} {g : SE → SE → SE} (h : metG name = some g) (f : ∀ nm, M1 X o a nm apos cpos) (ho : PE X o (LE X.F W fo)) (ha : PE X a (LE X.F W fa)) : PE X (.Call (.Attribute o name apos) [a] [] cpos) (LE X.F W (g fo fa)) := by
  unfold metG at h
  split at h
  · rename_i e
    cases h
    subst e
    exact le_append (f _) ho ha
  · split at h
    · rename_i e
      cases h
      subst e
      exact le_extend (f _) ho ha
    · split at h
      · rename_i e
        cases h
        subst e
        exact le_pop1 (f _) ho ha
      · split at h
        · rename_i e
          cases h
          subst e
          exact le_join (f _) ho ha
        · split at h
          · rename_i e
            cases h
            subst e
            exact le_starts (f _) ho ha
          · split at h
            · rename_i e
              cases h
              subst e
              exact le_split (f _) ho ha
            · split at h
              · rename_i e
                cases h
                subst e
                exact le_count hu (f _) ho ha
              · cases h

/-! ### targets, what is walked -/
theorem name_ok (C : Cok X W I call k) {e : Expr} {i : Nat} (h : nmPlace I e = some i) : PG X e (gName i) := by
  unfold nmPlace at h
  split at h
  · rename_i x p
    split at h
    · rename_i j ej
      split at h
      · rename_i hl
        cases h
        obtain ⟨h1, h2⟩ := loc_of C hl
        exact pg_name C.nd (by rw [C.N]; exact idxOf_ok ej) h1 h2
      · cases h
    · cases h
  · cases h
theorem names_ok (C : Cok X W I call k) : ∀ {es : List Expr} {is : List Nat}, seqM (nmPlace I) es = some is → NmL X es is ∧ (assignEach es X.env).length = es.length ∧ (assignEach es X.env).findIdx? (·.1) = none ∧ is.length = es.length
  | [], is, h => by
    cases h
    exact ⟨.nil, rfl, rfl, rfl⟩
  | e :: es, is, h => by
    obtain ⟨i, js, h1, h2, rfl⟩ := seqM_cons h
    obtain ⟨h3, h4, h5, h6⟩ := names_ok C h2
    have hg := name_ok C h1
    unfold nmPlace at h1
    split at h1
    · refine ⟨.cons hg rfl h3, ?_, ?_, ?_⟩
      · show _ + 1 = _ + 1
        rw [h4]
      · show List.findIdx? (·.1) ((false, _) :: assignEach es X.env) = none
        rw [List.findIdx?_cons, h5]
        rfl
      · show _ + 1 = _ + 1
        rw [h6]
    · cases h1
theorem tg_ok1 (C : Cok X W I call k) {e : Expr} {is : List Nat} {t : Tg} (h : tgOf1 I e = some (is, t)) : PG X e (LG X.F is t) := by
  unfold tgOf1 at h
  split at h
  · obtain ⟨i, h1, h2⟩ := Option.map_eq_some_iff.mp h
    cases h2
    exact lg_name (name_ok C h1)
  · split at h
    · rename_i hh
      obtain ⟨js, h1, h2⟩ := Option.map_eq_some_iff.mp h
      cases h2
      obtain ⟨h3, h4, h5, h6⟩ := names_ok C h1
      exact lg_tup (C.calm hh) h3 h4 h5 h6
    · cases h
  · cases h
theorem tgs_ok {f : Expr → Option (List Nat × Tg)} (hf : ∀ e is t, f e = some (is, t) → PG X e (LG X.F is t) ∧ ((∃ x p, e = .Name x p) ∨ ∃ es k p, e = .Tuple es k p)) : ∀ {es : List Expr} {r : List (List Nat × Tg)}, seqM f es = some r → TgL X es r ∧ (assignEach es X.env).length = es.length ∧ (assignEach es X.env).findIdx? (·.1) = none ∧ r.length = es.length
  | [], r, h => by
    cases h
    exact ⟨.nil, rfl, rfl, rfl⟩
  | e :: es, r, h => by
    obtain ⟨i, js, h1, h2, rfl⟩ := seqM_cons h
    obtain ⟨h3, h4, h5, h6⟩ := tgs_ok hf h2
    obtain ⟨is, t⟩ := i
    obtain ⟨hg, hsh⟩ := hf e is t h1
    rcases hsh with ⟨x, p, rfl⟩ | ⟨es', kk, p, rfl⟩
    · refine ⟨.cons hg rfl h3, ?_, ?_, ?_⟩
      · show _ + 1 = _ + 1
        rw [h4]
      · show List.findIdx? (·.1) ((false, _) :: assignEach es X.env) = none
        rw [List.findIdx?_cons, h5]
        rfl
      · show _ + 1 = _ + 1
        rw [h6]
    · refine ⟨.cons hg rfl h3, ?_, ?_, ?_⟩
      · show _ + 1 = _ + 1
        rw [h4]
      · show List.findIdx? (·.1) ((false, _) :: assignEach es X.env) = none
        rw [List.findIdx?_cons, h5]
        rfl
      · show _ + 1 = _ + 1
        rw [h6]
theorem tg_sh1 {e : Expr} {q : List Nat × Tg} (h : tgOf1 I e = some q) : (∃ x p, e = .Name x p) ∨ ∃ es k p, e = .Tuple es k p := by
  unfold tgOf1 at h
  split at h
  · exact .inl ⟨_, _, rfl⟩
  · exact .inr ⟨_, _, _, rfl⟩
  · cases h
theorem tg_sh2 {e : Expr} {q : List Nat × Tg} (h : tgOf2 I e = some q) : (∃ x p, e = .Name x p) ∨ ∃ es k p, e = .Tuple es k p := by
  unfold tgOf2 at h
  split at h
  · exact .inl ⟨_, _, rfl⟩
  · exact .inr ⟨_, _, _, rfl⟩
  · cases h
theorem tg_ok2 (C : Cok X W I call k) {e : Expr} {is : List Nat} {t : Tg} (h : tgOf2 I e = some (is, t)) : PG X e (LG X.F is t) := by
  unfold tgOf2 at h
  split at h
  · obtain ⟨i, h1, h2⟩ := Option.map_eq_some_iff.mp h
    cases h2
    exact lg_name (name_ok C h1)
  · split at h
    · rename_i hh
      split at h
      · rename_i js h1
        cases h
        obtain ⟨h3, h4, h5, h6⟩ := names_ok C h1
        exact lg_tup (C.calm hh) h3 h4 h5 h6
      · obtain ⟨r, h1, h2⟩ := Option.map_eq_some_iff.mp h
        cases h2
        obtain ⟨h3, h4, h5, h6⟩ := tgs_ok (fun e is t he => ⟨tg_ok1 C he, tg_sh1 he⟩) h1
        exact lg_tupN (C.calm hh) h3 h4 h5 h6
    · cases h
  · cases h
theorem tg_ok (C : Cok X W I call k) {e : Expr} {is : List Nat} {t : Tg} (h : tgOf I e = some (is, t)) : PG X e (LG X.F is t) := by
  unfold tgOf at h
  split at h
  · obtain ⟨i, h1, h2⟩ := Option.map_eq_some_iff.mp h
    cases h2
    exact lg_name (name_ok C h1)
  · split at h
    · rename_i hh
      split at h
      · rename_i js h1
        cases h
        obtain ⟨h3, h4, h5, h6⟩ := names_ok C h1
        exact lg_tup (C.calm hh) h3 h4 h5 h6
      · obtain ⟨r, h1, h2⟩ := Option.map_eq_some_iff.mp h
        cases h2
        obtain ⟨h3, h4, h5, h6⟩ := tgs_ok (fun e is t he => ⟨tg_ok2 C he, tg_sh2 he⟩) h1
        exact lg_tupN (C.calm hh) h3 h4 h5 h6
    · cases h
  · cases h
theorem tup_of {tg : Expr} (h : isTup tg = true) : ∃ es k p, tg = .Tuple es k p := by
  cases tg <;> first | exact ⟨_, _, _, rfl⟩ | cases h
theorem it_ok (hr : Sound call k rec) (C : Cok X W I call k) {tg e : Expr} {f : SI} (h : itOf rec I tg e = some f) : PI X tg e (LI X.F W f) := by
  unfold itOf at h
  split at h
  · rename_i x p args pos
    split at h
    · rename_i eg
      obtain ⟨hg, hm, ex⟩ := glob_of C eg
      subst ex
      split at h
      · rename_i a
        split at h
        · rename_i hs
          obtain ⟨fa, h1, rfl⟩ := Option.map_eq_some_iff.mp h
          exact li_rng1 hg hm ((hr I X _ a C).1 _ h1) (star_cons hs)
        · cases h
      · rename_i a b
        split at h
        · rename_i hs
          split at h
          · rename_i fa fb h1 h2
            cases h
            exact li_rng2 hg hm ((hr I X _ a C).1 _ h1) ((hr I X _ b C).1 _ h2) (by rw [star_cons hs.1, star_cons hs.2]; rfl) (star_cons hs.2)
          · cases h
        · cases h
      · cases h
    · rename_i eg
      obtain ⟨hg, hm, ex⟩ := glob_of C eg
      subst ex
      split at h
      · rename_i a
        split at h
        · rename_i hs
          obtain ⟨es, kk, tp, rfl⟩ := tup_of hs.2
          obtain ⟨fa, h1, rfl⟩ := Option.map_eq_some_iff.mp h
          exact li_enum hg hm ((hr I X _ a C).1 _ h1) (star_cons hs.1)
        · cases h
      · cases h
    · rename_i eg
      obtain ⟨hg, hm, ex⟩ := glob_of C eg
      subst ex
      split at h
      · rename_i a b
        split at h
        · rename_i hs
          obtain ⟨es, kk, tp, rfl⟩ := tup_of hs.2
          split at h
          · rename_i fa fb h1 h2
            cases h
            exact li_zip hg hm ((hr I X _ a C).1 _ h1) ((hr I X _ b C).1 _ h2) (star_cons hs.1.1) (star_cons hs.1.2) (back_any _ (by simpa using hs.1.2))
          · cases h
        · cases h
      · cases h
    · rename_i eg
      obtain ⟨hg, hm, ex⟩ := glob_of C eg
      subst ex
      split at h
      · rename_i a
        split at h
        · rename_i hs
          obtain ⟨fa, h1, rfl⟩ := Option.map_eq_some_iff.mp h
          exact li_rev hg hm ((hr I X _ a C).1 _ h1) (star_cons hs)
        · cases h
      · cases h
    · obtain ⟨fa, h1, rfl⟩ := Option.map_eq_some_iff.mp h
      exact li_iter ((hr I X _ _ C).1 _ h1)
  · obtain ⟨fa, h1, rfl⟩ := Option.map_eq_some_iff.mp h
    exact li_iter ((hr I X _ _ C).1 _ h1)
theorem blk_F (hc : X.calm = true) {s : Shared} {H : Hp} {scope : Scope} {env : PySem.Env} {fp : List Addr} : (X.blk s H scope env fp).F = X.F := by
  rw [F_calm hc]
  exact F_calm (X := X.blk s H scope env fp) hc
theorem blk_yes (hc : X.calm = true) {s : Shared} {H : Hp} {scope : Scope} {env : PySem.Env} {fp : List Addr} : PTs (X.blk s H scope env fp) [] (LT X.F WF sYes) := by
  have q := lts_nil (X := X.blk s H scope env fp) (W := WF)
  rw [blk_F hc] at q
  exact q
theorem blk_cok (C : Cok X W I call k) (hh : I.hot = false) {scope : Scope} (s : Shared) (H : Hp) (cn : Addr) (cl : List (Str × Addr)) (fp : List Addr) : Cok (X.blk s H scope (compEnvC scope cl cn X.env) fp) WF (inBlk I scope) call k where
  N := C.N
  nd := C.nd
  sc := by
    show relS scope X.env.scope = relS scope I.sc
    rw [C.sc]
  hot1 := ⟨fun _ => C.hot1.cool hh, (fun z => absurd (hh.symm.trans z) Bool.false_ne_true), C.hot1.room⟩
  fn := fun h => by cases h
  po := PassesOwn.never
  tk := fun u s' ⟨_, _, _, _, _, _, _, _, _, _, _, _, _, _, _, _, w⟩ => w.elim
  glob := fun x e h => C.glob x e h
  globH := fun x e h => C.globH x e h
  xo := C.xo
  fr := fun h => by cases h
theorem Cok.hotp (C : Cok X W I call k) : ∀ p, X.pn.head? = some p → X.calm = false → ∃ vs : Array Value, p.2.data = .fields vs := fun p hp hc => by
  cases hh : I.hot with
  | false => rw [(C.hot.cool hh).1] at hc; cases hc
  | true =>
    obtain ⟨_, p', hp', h⟩ := C.hot.warm hh
    rw [hp] at hp'
    cases hp'
    obtain ⟨_, vs, h1, _⟩ := h
    exact ⟨vs, h1⟩

theorem sortKw_ok (hr : Sound call k rec) (C : Cok X W I call k) {x : Str} {p pos : Pos} {a : Expr} {args : List Expr} {kws : List Keyword} {f : SE} (o : okName x = true) (hs : (a :: args).all notStar = true) (hg : Gl X x) (hm : X.mg x = none) (e : x = biName .sorted)
    (h : sortKw call rec I a args kws = some f) : PE X (.Call (.Name x p) (a :: args) kws pos) (LE X.F W f) := by
  unfold sortKw at h
  split at h
  · split at h
    · rename_i hc
      obtain ⟨hh, rfl, oy⟩ := hc
      split at h
      · rename_i ey
        obtain ⟨hgy, f0, fd, ps, hmy, hk, hb, F⟩ := glob_of C ey
        obtain ⟨fa, h1, rfl⟩ := Option.map_eq_some_iff.mp h
        subst e
        have hot := C.hot1
        rw [hh] at hot F
        have hs' : notStar a = true := by simpa using hs
        obtain ⟨o1, o2, o3⟩ := ok_of o
        exact le_sortK hot F hb C.u1 hg hm (by decide +kernel) o3 o1 hgy hmy (ok_of oy).1 ((hr I X _ _ C).1 _ h1) (star_cons hs') (back_any _ hs)
      · cases h
    · cases h
  · cases h
theorem expr_ok (hr : Sound call k rec) (C : Cok X W I call k) {e : Expr} {f : SE} (h : exprOf call rec I e = some f) : PE X e (LE X.F W f) := by
  unfold exprOf at h
  split at h
  -- Name
  · rename_i x p
    split at h
    · rename_i ho
      obtain ⟨o1, o2, o3⟩ := ok_of ho
      split at h
      · rename_i i ei
        cases h
        split at ei
        · rename_i hv
          exact le_var (by rw [C.N]; exact idxOf_ok ei) (vis_of C hv) o1 o2
        · cases ei
      · split at h
        · rename_i d eg
          cases h
          obtain ⟨hg, u, v, hm, hv, hd⟩ := glob_of C eg
          exact le_con (pe_glob hg hm hv o1) fun H m => Rp.cov Cov.base _ _ hd
        · cases h
    · cases h
  -- Constant
  · rename_i c j p
    obtain ⟨d, h1, rfl⟩ := Option.map_eq_some_iff.mp h
    unfold constOf at h1
    split at h1
    · cases h1; exact le_con pe_int fun _ _ => .int _
    · cases h1; exact le_con pe_bl fun _ _ => .bl _
    · cases h1; exact le_con pe_non fun _ _ => .non
    · split at h1
      · rename_i ok
        cases h1
        exact le_con pe_str fun _ _ => .str _ ok
      · cases h1
    · cases h1
  -- BinOp
  · split at h
    · rename_i h1 h2 h3
      cases h
      exact le_bin (bin_nx h3) (bin_ok C h3) ((hr I X _ _ C).1 _ h1) ((hr I X _ _ C).1 _ h2)
    · cases h
  · obtain ⟨fa, h1, rfl⟩ := Option.map_eq_some_iff.mp h
    exact le_un (nx_dat1 _) und_neg ((hr I X _ _ C).1 _ h1)
  · obtain ⟨fa, h1, rfl⟩ := Option.map_eq_some_iff.mp h
    exact le_notV ((hr I X _ _ C).1 _ h1)
  -- Compare
  · split at h
    · rename_i hn
      split at h
      · rename_i h1 h2 h3
        cases h
        exact le_cmp (cmp_nx h3) (cmp_ok C h3) ((hr I X _ _ C).1 _ h1) ((hr I X _ _ C).1 _ h2) (noMark hn _)
      · cases h
    · cases h
  · split at h
    · rename_i fs e1
      exact boolEs_ok hr C e1 h
    · cases h
  · split at h
    · rename_i h1 h2 h3
      cases h
      exact le_ifExp ((hr I X _ _ C).2 _ h1) ((hr I X _ _ C).1 _ h2) ((hr I X _ _ C).1 _ h3)
    · cases h
  -- slices
  · split at h
    · rename_i h1 h2 h3
      cases h
      exact le_slice ((hr I X _ _ C).1 _ h1) (part_ok hr C h2) (part_ok hr C h3)
    · cases h
  · obtain ⟨fa, h1, rfl⟩ := Option.map_eq_some_iff.mp h
    exact le_back ((hr I X _ _ C).1 _ h1)
  · split at h
    · rename_i hn
      split at h
      · rename_i h1 h2
        cases h
        exact le_ix C.u1 ((hr I X _ _ C).1 _ h1) ((hr I X _ _ C).1 _ h2) (plainIx_of hn)
      · cases h
    · cases h
  -- displays
  · split at h
    · rename_i hs
      obtain ⟨fs, h1, rfl⟩ := Option.map_eq_some_iff.mp h
      exact le_tup (args_ok hr C hs h1)
    · cases h
  · split at h
    · rename_i hs
      obtain ⟨fs, h1, rfl⟩ := Option.map_eq_some_iff.mp h
      split
      · exact le_new (args_ok hr C hs h1)
      · exact le_lst (args_ok hr C hs h1)
    · cases h
  -- calls
  · rename_i x p args pos
    split at h
    · rename_i ho
      obtain ⟨ho, hs⟩ := ho
      obtain ⟨o1, o2, o3⟩ := ok_of ho
      split at h
      · rename_i n eg
        obtain ⟨hg, f0, fd, ps, hm, hk, hb, F⟩ := glob_of C eg
        split at h
        · rename_i fs e1
          split at h
          · rename_i hl
            cases h
            subst hl
            cases args with
            | nil =>
              cases e1
              exact le_call0 F C.hot C.tk hg hm hk hb o1
            | cons a r =>
              have hs' : notStar a = true ∧ r.all notStar = true := by simpa using hs
              exact le_call F C.hot C.tk hg hm hk hb (args_ok hr C hs e1) o1 (star_cons hs'.1) (back_any _ hs'.2)
          · cases h
        · cases h
      · rename_i n ks eg
        obtain ⟨hg, f0, fd, ps, hm, hk, hb, F⟩ := glob_of C eg
        split at h
        · rename_i fs e1
          split at h
          · rename_i hl
            cases h
            cases args with
            | nil =>
              cases e1
              exact absurd hl.1 (Nat.ne_of_lt hl.2)
            | cons a r =>
              have hs' : notStar a = true ∧ r.all notStar = true := by simpa using hs
              exact le_callD F C.hot C.tk hg hm hk hb hl.1 (args_ok hr C hs e1) o1 (star_cons hs'.1) (back_any _ hs'.2)
          · cases h
        · cases h
      · rename_i eg
        obtain ⟨hg, hm, ex⟩ := glob_of C eg
        subst ex
        split at h
        · rename_i a T tp
          split at h
          · rename_i b eb
            obtain ⟨hgT, hmT, eT⟩ := glob_of C eb
            split at h
            · rename_i fa ty h1 h2
              cases h
              subst eT
              obtain ⟨b1, b2⟩ := bi_ty h2
              have hs' : notStar a = true := by
                have h7 := List.all_eq_true.mp hs a List.mem_cons_self
                exact h7
              refine le_isi b1 hg hm ((hr I X _ _ C).1 _ h1) hgT hmT b2 ?_ ?_ (star_cons hs')
              · cases b <;> cases h2 <;> decide +kernel
              · cases b <;> cases h2 <;> decide +kernel
            · cases h
          · cases h
        · cases h
      · rename_i b eg
        obtain ⟨hg, hk⟩ := glob_of C eg
        split at h
        · split at h
          · rename_i fs g h1 h2
            split at h
            · rename_i hw
              cases h
              exact bi_callN C hr h2 hg hk hw ho hs h1
            · cases h
          · cases h
        · cases h
      · cases h
    · cases h
  · split at h
    · rename_i hs
      split at h
      · rename_i en
        subst en
        split at h
        · rename_i ys eys
          obtain ⟨fa, h1, rfl⟩ := Option.map_eq_some_iff.mp h
          unfold conT at eys
          split at eys
          · rename_i x p
            split at eys
            · rename_i ho
              split at eys
              · rename_i ds eg
                obtain ⟨hg, u, v, hm, hv, hd⟩ := glob_of C eg
                exact le_indexC hg hm hv hd eys (ok_of ho).1 (m1_of hs.1 hs.2.1 hs.2.2) ((hr I X _ _ C).1 _ h1)
              · cases eys
            · cases eys
          · cases eys
        · split at h
          · rename_i fo fa h1 h2
            cases h
            exact le_index (by have := C.hot.room.un; omega) (m1_of hs.1 hs.2.1 hs.2.2) ((hr I X _ _ C).1 _ h1) ((hr I X _ _ C).1 _ h2)
          · cases h
      split at h
      · rename_i en
        subst en
        split at h
        · rename_i fo fa h1 h2
          cases h
          exact le_get C.u1 (base_of _ hs.1) hs.2.2 (star_cons hs.2.1) rfl (back_any _ (by rw [List.all_cons, hs.2.1]; rfl)) (show 1 < 30 by decide) ((hr I X _ _ C).1 _ h1) (la_cons ((hr I X _ _ C).1 _ h2) la_nil (star_cons hs.2.1))
        · cases h
      · split at h
        · rename_i h1 h2 h3
          cases h
          exact met_ok C.u1 h3 (fun nm => m1_of hs.1 hs.2.1 hs.2.2) ((hr I X _ _ C).1 _ h1) ((hr I X _ _ C).1 _ h2)
        · cases h
    · cases h
  · split at h
    · rename_i hs
      obtain ⟨fo, h1, rfl⟩ := Option.map_eq_some_iff.mp h
      obtain ⟨h2, h3, rfl⟩ := hs
      exact le_pop0 (base_of _ h2) h3 ((hr I X _ _ C).1 _ h1)
    · cases h
  · rename_i o name apos a b cpos
    split at h
    · rename_i hs
      obtain ⟨hs1, hs2, hs3, hs4⟩ := hs
      subst hs4
      split at h
      · rename_i fo fa fb h1 h2 h3
        cases h
        have hall : [a, b].all notStar = true := by rw [List.all_cons, List.all_cons, hs2.1, hs2.2]; rfl
        exact le_get C.u1 (base_of _ hs1) hs3 (star_cons hs2.1) (back_any _ (by rw [List.all_cons, hs2.2]; rfl)) (back_any _ hall) (show 2 < 30 by decide) ((hr I X _ _ C).1 _ h1) (la_cons ((hr I X _ _ C).1 _ h2) (la_cons ((hr I X _ _ C).1 _ h3) la_nil (star_cons hs2.2)) (star_cons hs2.1))
      · cases h
    · cases h
  · rename_i x p a args kw kws pos
    split at h
    · rename_i ho
      obtain ⟨ho, hs⟩ := ho
      obtain ⟨o1, o2, o3⟩ := ok_of ho
      split at h
      · rename_i n ks eg
        obtain ⟨hg, f0, fd, ps, hm, hk, hb, F⟩ := glob_of C eg
        split at h
        · rename_i hkw
          split at h
          · rename_i fs gs e1 e2
            split at h
            · rename_i hl
              cases h
              have hs' : notStar a = true ∧ args.all notStar = true := by simpa using hs
              obtain ⟨k1, k2⟩ := kws_ok hr C e2
              exact le_callKw F C.hot C.tk hg hm hk hb hl hkw k2 (args_ok hr C hs e1) k1 o1 (star_cons hs'.1) (back_any _ hs)
            · cases h
          · cases h
        · cases h
      · rename_i eg
        obtain ⟨hg, hm, e⟩ := glob_of C eg
        exact sortKw_ok hr C ho hs hg hm e h
      · cases h
    · cases h
  · cases h
    split
    · exact le_dctN
    · exact le_dct0
  -- a comprehension
  · split at h
    · rename_i hs
      split at h
      · rename_i is t fi fe h1 h2 h3
        split at h
        · rename_i hin
          have hin' : ∀ i ∈ is, i ∈ (ownOf I.N _).map (·.2) := fun i hi => of_decide_eq_true (List.all_eq_true.mp hin i hi)
          have ok : BlkOk X.N X.env.scope _ _ := blkOk_by (by rw [C.N, C.sc]; exact hs.1.1)
          split at h
          · cases h
            split
            · exact (pe_lc (C.calm hs.2) C.nd (it_ok hr C h2) ok (fun s H cn cl fp => by
              have q := tg_ok (blk_cok C hs.2 s H cn cl fp) h1
              rw [blk_F (C.calm hs.2)] at q
              exact q) (fun s H cn cl fp => blk_yes (C.calm hs.2)) (fun s H cn cl fp => by
              have q := (hr _ _ _ _ (blk_cok C hs.2 s H cn cl fp)).1 _ h3
              rw [blk_F (C.calm hs.2)] at q
              exact q) (noFold hs.1.2 _)).weak fun σ H Q q => le_compN hin' q
            · exact (pe_lc (C.calm hs.2) C.nd (it_ok hr C h2) ok (fun s H cn cl fp => by
              have q := tg_ok (blk_cok C hs.2 s H cn cl fp) h1
              rw [blk_F (C.calm hs.2)] at q
              exact q) (fun s H cn cl fp => blk_yes (C.calm hs.2)) (fun s H cn cl fp => by
              have q := (hr _ _ _ _ (blk_cok C hs.2 s H cn cl fp)).1 _ h3
              rw [blk_F (C.calm hs.2)] at q
              exact q) (noFold hs.1.2 _)).weak fun σ H Q q => le_comp hin' q
          · obtain ⟨tc, h4, rfl⟩ := Option.map_eq_some_iff.mp h
            split
            · exact (pe_lc (C.calm hs.2) C.nd (it_ok hr C h2) ok (fun s H cn cl fp => by
              have q := tg_ok (blk_cok C hs.2 s H cn cl fp) h1
              rw [blk_F (C.calm hs.2)] at q
              exact q) (fun s H cn cl fp => by
              have q := lts_one ((hr _ _ _ _ (blk_cok C hs.2 s H cn cl fp)).2 _ h4)
              rw [blk_F (C.calm hs.2)] at q
              exact q) (fun s H cn cl fp => by
              have q := (hr _ _ _ _ (blk_cok C hs.2 s H cn cl fp)).1 _ h3
              rw [blk_F (C.calm hs.2)] at q
              exact q) (noFold hs.1.2 _)).weak fun σ H Q q => le_compN hin' q
            · exact (pe_lc (C.calm hs.2) C.nd (it_ok hr C h2) ok (fun s H cn cl fp => by
              have q := tg_ok (blk_cok C hs.2 s H cn cl fp) h1
              rw [blk_F (C.calm hs.2)] at q
              exact q) (fun s H cn cl fp => by
              have q := lts_one ((hr _ _ _ _ (blk_cok C hs.2 s H cn cl fp)).2 _ h4)
              rw [blk_F (C.calm hs.2)] at q
              exact q) (fun s H cn cl fp => by
              have q := (hr _ _ _ _ (blk_cok C hs.2 s H cn cl fp)).1 _ h3
              rw [blk_F (C.calm hs.2)] at q
              exact q) (noFold hs.1.2 _)).weak fun σ H Q q => le_comp hin' q
          · cases h
        · cases h
      · cases h
    · cases h
  · cases h
theorem test_ok (hr : Sound call k rec) (C : Cok X W I call k) {e : Expr} {t : ST} (h : testOf rec (exprOf call rec I e) I e = some t) : PT X e (LT X.F W t) := by
  unfold testOf at h
  split at h
  · obtain ⟨f, h1, rfl⟩ := Option.map_eq_some_iff.mp h
    simp only [exprOf] at h1
    split at h1
    · rename_i hn
      split at h1
      · rename_i h2 h3 h4
        cases h1
        exact lt_cmp (cmp_nx h4) (cmp_ok C h4) ((hr I X _ _ C).1 _ h2) ((hr I X _ _ C).1 _ h3) (noMark hn _)
      · cases h1
    · cases h1
  · obtain ⟨f, h1, rfl⟩ := Option.map_eq_some_iff.mp h
    exact lt_not ((hr I X _ _ C).2 _ h1)
  · split at h
    · rename_i fs e1
      exact (boolTs_ok hr C e1 h).pt
    · cases h
  · split at h
    · rename_i hp
      obtain ⟨f, h1, rfl⟩ := Option.map_eq_some_iff.mp h
      exact lt_val (expr_ok hr C h1) (plain_of hp)
    · cases h
theorem frz_ok {I : Inf} {X : Cx} {W : WX} {e : Expr} {o : Option SE} (h : ∀ g, o = some g → PE X e (LE X.F W g)) {f : SE} (hf : o.map (frz I e) = some f) : PE X e (LE X.F W f) := by
  cases o with
  | none => cases hf
  | some g =>
    have hf := Option.some.inj hf
    have h1 := h g rfl
    subst hf
    unfold frz
    split
    · split
      · exact h1.weak fun σ H Q hq => fr_le hq
      · exact h1
    · exact h1
theorem ts_ok (hr : Sound call k rec) (C : Cok X W I call k) : ∀ {es : List Expr} {t : ST}, tsOf rec I es = some t → PTs X es (LT X.F W t)
  | [], t, h => by cases h; exact lts_nil
  | [c], t, h => lts_one ((hr I X _ _ C).2 _ h)
  | _ :: _ :: _, t, h => by cases h
theorem xtra_ok (hr : Sound call k rec) (C : Cok X W I call k) {e : Expr} {f : SE} (h : xtraOf rec I e = some f) : PE X e (LE X.F W f) := by
  unfold xtraOf at h
  split at h
  · split at h
    · rename_i hb
      obtain ⟨fa, h1, rfl⟩ := Option.map_eq_some_iff.mp h
      exact le_fld C.xo C.hotp ((hr I X _ _ C).1 _ h1) (base_of _ hb)
    · cases h
  · split at h
    · rename_i hb
      obtain ⟨hs, hT, hgT⟩ := hb
      split at h
      · rename_i eg
        obtain ⟨hg, hm, ex⟩ := glob_of C eg
        subst ex
        split at h
        · rename_i q eq
          obtain ⟨fa, h1, rfl⟩ := Option.map_eq_some_iff.mp h
          exact le_isE C.xo C.hotp eq hg hm ((hr I X _ _ C).1 _ h1) (gl_of C hgT) (ok_of hT).1 (star_cons hs)
        · split at h
          · rename_i eT
            obtain ⟨fa, h1, rfl⟩ := Option.map_eq_some_iff.mp h
            obtain ⟨hg2, hm2, ex2⟩ := glob_of C (show (if glB I.sc _ = true then I.lk _ else none) = some (.blt .vale) by rw [if_pos hgT]; exact eT)
            subst ex2
            exact le_isV C.xo C.hotp hg hm ((hr I X _ _ C).1 _ h1) hg2 hm2 (star_cons hs)
          · cases h
      · cases h
    · cases h
  · split at h
    · split at h
      · rename_i h1 h2
        cases h
        exact le_dct1 C.u1 ((hr I X _ _ C).1 _ h1) ((hr I X _ _ C).1 _ h2)
      · cases h
    · cases h
  · split at h
    · rename_i hn
      split at h
      · rename_i h1 h2 h3 h4 h5
        cases h
        exact le_chain (cmp_nx h4) (cmp_nx h5) (cmp_ok C h4) (cmp_ok C h5) ((hr I X _ _ C).1 _ h1) ((hr I X _ _ C).1 _ h2) ((hr I X _ _ C).1 _ h3) (noMark hn _)
      · cases h
    · cases h
  · split at h
    · split at h
      · rename_i h1 h2
        cases h
        exact le_bin nx_addN opd_gAddN ((hr I X _ _ C).1 _ h1) ((hr I X _ _ C).1 _ h2)
      · cases h
    · cases h
  · split at h
    · rename_i hn
      split at h
      · rename_i h1 h2
        obtain ⟨fa, h3, rfl⟩ := Option.map_eq_some_iff.mp h
        obtain ⟨g1, m1, e1⟩ := glob_of C h1
        obtain ⟨g2, m2, e2⟩ := glob_of C h2
        subst e1
        subst e2
        exact le_lrg (C.calm hn.2) g1 m1 g2 m2 ((hr I X _ _ C).1 _ h3) (star_cons hn.1)
      · cases h
    · cases h
  · split at h
    · rename_i hs
      split at h
      · rename_i is t fi is1 t1 fi1 fe h1 h2 h3 h4 h5
        split at h
        · rename_i hin
          have hin1 : ∀ i ∈ is, i ∈ (ownOf I.N _).map (·.2) := fun i hi => of_decide_eq_true (List.all_eq_true.mp hin.1 i hi)
          have hin2 : ∀ i ∈ is1, i ∈ (ownOf I.N _).map (·.2) := fun i hi => of_decide_eq_true (List.all_eq_true.mp hin.2 i hi)
          have ok : BlkOk X.N X.env.scope _ _ := blkOk_by (by rw [C.N, C.sc]; exact hs.1.1)
          split at h
          · rename_i c c1 h6 h7
            cases h
            exact (pe_lc2 (C.calm hs.2) C.nd (it_ok hr C h2) ok hin2 (fun s H cn cl fp => by
              have q := tg_ok (blk_cok C hs.2 s H cn cl fp) h1
              rw [blk_F (C.calm hs.2)] at q
              exact q) (fun s H cn cl fp => by
              have q := ts_ok hr (blk_cok C hs.2 s H cn cl fp) h6
              rw [blk_F (C.calm hs.2)] at q
              exact q) (fun s H cn cl fp => by
              have q := it_ok hr (blk_cok C hs.2 s H cn cl fp) h4
              rw [blk_F (C.calm hs.2)] at q
              exact q) (fun s H cn cl fp => by
              have q := tg_ok (blk_cok C hs.2 s H cn cl fp) h3
              rw [blk_F (C.calm hs.2)] at q
              exact q)
              (fun s H cn cl fp => by
              have q := ts_ok hr (blk_cok C hs.2 s H cn cl fp) h7
              rw [blk_F (C.calm hs.2)] at q
              exact q) (fun s H cn cl fp => by
              have q := (hr _ _ _ _ (blk_cok C hs.2 s H cn cl fp)).1 _ h5
              rw [blk_F (C.calm hs.2)] at q
              exact q) (noFold hs.1.2.1 _) (fun _ => noFold hs.1.2.2 _)).weak fun σ H Q q => le_comp2 hin1 (fun i hi => hi) q
          · cases h
        · cases h
      · cases h
    · cases h
  · cases h
theorem xtraT_ok (hr : Sound call k rec) (C : Cok X W I call k) {e : Expr} {t : ST} (h : xtraT rec I e = some t) : PT X e (LT X.F W t) := by
  unfold xtraT at h
  split at h
  · split at h
    · rename_i hn
      split at h
      · rename_i h1 h2 h3 h4 h5
        cases h
        exact lt_chain (cmp_nx h4) (cmp_nx h5) (cmp_ok C h4) (cmp_ok C h5) ((hr I X _ _ C).1 _ h1) ((hr I X _ _ C).1 _ h2) ((hr I X _ _ C).1 _ h3) (noMark hn _)
      · cases h
    · cases h
  · cases h
theorem notStar_call (f : Expr) (as : List Expr) (ks : List Keyword) (p : Pos) : notStar (.Call f as ks p) = true := rfl
theorem rep_ok (hr : Sound call k rec) (C : Cok X W I call k) {e : Expr} {f : SE} (h : repE rec I e = some f) : PET X e (LE X.F W f) := by
  unfold repE at h
  split at h
  · split at h
    · rename_i hb
      obtain ⟨⟨rfl, b1, b2⟩, b3, b4, b5⟩ := hb
      obtain ⟨g, h1, rfl⟩ := Option.map_eq_some_iff.mp h
      exact le_rep ((hr I X _ _ C).1 _ h1) b3 b4 b5 rfl (base_of _ b1) b2
    · cases h
  · cases h
theorem elR_ok (hr : Sound call k rec) (C : Cok X W I call k) {e : Expr} {f : SE} (h : elR rec I e = some f) : PET X e (LE X.F W f) := by
  unfold elR at h
  split at h
  · rename_i h1
    cases h
    exact rep_ok hr C h1
  · exact CwR.PET.of ((hr I X _ _ C).1 _ h)
theorem lat_seq (hr : Sound call k rec) (C : Cok X W I call k) : ∀ {es : List Expr} {fs : List SE}, es.all notStar = true → seqM (elR rec I) es = some fs → PAT X es (LA X.F W (sArgs fs))
  | [], fs, _, h => by
    cases h
    exact lat_nil
  | e :: es, fs, hs, h => by
    rw [List.all_cons, Bool.and_eq_true] at hs
    unfold seqM at h
    split at h
    · rename_i h1
      obtain ⟨gs, h2, rfl⟩ := Option.map_eq_some_iff.mp h
      exact lat_cons (elR_ok hr C h1) (lat_seq hr C hs.2 h2) (star_cons hs.1)
    · cases h
theorem dcl_ok (hr : Sound call k rec) (C : Cok X W I call k) {e : Expr} {f : SE} (h : dclE rec I e = some f) : PE X e (LE X.F W f) := by
  unfold dclE at h
  split at h
  · split at h
    · cases h
      exact le_dctL
    · cases h
  · split at h
    · rename_i hb
      obtain ⟨⟨rfl, rfl⟩, ⟨b1, b2, b3⟩, b4, b5⟩ := hb
      split at h
      · rename_i h1 h2 h3
        cases h
        have nl : ∀ p, notStar (.List [] p) = true := fun _ => rfl
        exact le_sdA C.u1 (base_of _ b1) b4 (star_cons b2) (star_cons (nl _)) (back_any _ (by rw [List.all_cons, nl]; rfl)) (back_any _ (by rw [List.all_cons, b2, List.all_cons, nl]; rfl)) (m1_of rfl b3 b5) ((hr I X _ _ C).1 _ h1) ((hr I X _ _ C).1 _ h2) ((hr I X _ _ C).1 _ h3)
      · cases h
    · cases h
  · split at h
    · rename_i hb
      obtain ⟨⟨rfl, b1, b2⟩, b3, b4⟩ := hb
      split at h
      · rename_i h1 h2 h3 h4
        cases h
        obtain ⟨g1, m1, e1⟩ := glob_of C h1
        obtain ⟨g2, m2, e2⟩ := glob_of C h2
        subst e1
        subst e2
        have nl : ∀ p, notStar (.List [] p) = true := fun _ => rfl
        exact le_rvG C.u1 (C.calm b4) g1 m1 g2 m2 (base_of _ b1) b3 (star_cons b2) (star_cons (nl _)) (back_any _ (by rw [List.all_cons, nl]; rfl)) (back_any _ (by rw [List.all_cons, b2, List.all_cons, nl]; rfl)) (star_cons (notStar_call _ _ _ _)) (star_cons (notStar_call _ _ _ _)) ((hr I X _ _ C).1 _ h3) ((hr I X _ _ C).1 _ h4)
      · cases h
    · cases h
  · split at h
    · rename_i hb
      obtain ⟨⟨b1, b2⟩, b3, b4⟩ := hb
      split at h
      · rename_i h1 h2
        cases h
        exact le_lst (la1_cons (p1_add ((hr I X _ _ C).1 _ h1) b1) (lat_seq hr C b2 h2) (star_cons (show notStar _ = true from rfl)))
      · cases h
    · cases h
  · cases h
theorem exprX_ok (hr : Sound call k rec) (C : Cok X W I call k) {e : Expr} {f : SE} (h : exprX call rec I e = some f) : PE X e (LE X.F W f) := by
  unfold exprX at h
  split at h
  · rename_i h1
    cases h
    exact dcl_ok hr C h1
  · split at h
    · rename_i h1
      cases h
      exact xtra_ok hr C h1
    · exact expr_ok hr C h
theorem testX_ok (hr : Sound call k rec) (C : Cok X W I call k) {e : Expr} {t : ST} (h : testX call rec I e = some t) : PT X e (LT X.F W t) := by
  unfold testX at h
  split at h
  · rename_i h1
    cases h
    exact xtraT_ok hr C h1
  · split at h
    · rename_i h1
      cases h
      exact test_ok hr C h1
    · split at h
      · rename_i hp
        obtain ⟨f, h1, rfl⟩ := Option.map_eq_some_iff.mp h
        exact lt_val (xtra_ok hr C h1) (plain_of hp)
      · cases h
theorem cE_ok (call : Str → GL) (k : Nat) : ∀ n, Sound call k (cE call n)
  | 0 => fun I X W e C => ⟨(fun f h => by cases h), (fun t h => by cases h)⟩
  | n + 1 => fun I X W e C => ⟨fun f h => frz_ok (fun g hg => exprX_ok (cE_ok call k n) C hg) h, fun t h => testX_ok (cE_ok call k n) C h⟩
end
end L2.Pv

set_option Elab.async false
set_option linter.all false
set_option maxRecDepth 100000
namespace L2.Pv
open PySem PySem.Spec PyProof.Rows L2

/-! ### statements of the text -/
def kindFn (sc : Scope) : Bool := match sc.kind with
  | .function => true
  | _ => false
def lcSw (sc : Scope) (y : Str) (py : Pos) (scope : Scope) (pos : Pos) : Bool :=
  (match sc.names.lookup y with | some .local => true | _ => false) && (py.line == pos.line) && !(scope.names.any fun (n, kd) => n == y && (kd == .local || kd == .cell))
def locN (sc : Scope) (x : Str) : Bool := match sc.names.lookup x with
  | some .local => true
  | _ => false
/-- a, b, c = x, y, z: stored from the right -/
def parOk (sc : Scope) (x y z : Str) (px py pz : Pos) (vs : List Expr) : Bool := kindFn sc && locN sc x && locN sc y && locN sc z && (py.line == px.line) && (pz.line == px.line) && !(x == y) && !(x == z) && !(y == z) && vs.all notStar && !vs.all (foldedForSure 8) && !vs.all (constantsAlone 8)
def stmtOf0 (ss : Inf → List Stmt → SS) (call : Str → GL) (n : Nat) (I : Inf) (st : Stmt) : SS := match st with
  | .Pass _ => sSkip
  | .Break _ => sBrk
  | .Continue _ => sCnt
  | .Expr e _ => match e with
    | .Constant (.str _) _ _ => sSkip
    | e => if notComp e = true then match (cE call n I e).e with
        | some f => sDrop f
        | none => sBad
      else sBad
  | .Return (some e) _ => match (cE call n I e).e with
    | some f => sRet f
    | none => sBad
  | .Return none _ => sRetN
  | .If c a b _ => match (cE call n I c).t with
    | some t => sIte t (ss I a) (ss I b)
    | none => sBad
  | .While c b [] _ => match (cE call n I c).t with
    | some t => sWhile t (ss I b)
    | none => sBad
  | .For tg it b [] _ => if notSet it = true ∧ I.hot = false then match tgOf I tg, itOf (cE call n) I tg it with
      | some (_, t), some f => sFor f t (ss I b)
      | _, _ => sBad
    else sBad
  | .Assign [.Name x p] e _ => match nmPlace I (.Name x p), (cE call n I e).e with
    | some i, some f => if notComp e = true then sSet i f else match e with
      | .ListComp _ [⟨_, _, _, 0⟩] _ _ => if kindFn I.sc = true then sSet i f else sBad
      | _ => sBad
    | _, _ => sBad
  | .Assign [.Tuple [.Name x px, .Name y py, .Name z pz] kk p] (.Tuple [a, b, c] k2 p2) _ => if parOk I.sc x y z px py pz [a, b, c] = true ∧ I.hot = false then match (cE call n I a).e, (cE call n I b).e, (cE call n I c).e, idxOf I.N x, idxOf I.N y, idxOf I.N z with
      | some fa, some fb, some fc, some i, some j, some l => sPar3 i j l fa fb fc
      | _, _, _, _, _, _ => sBad
    else sBad
  | .Assign [.Tuple es kk p] e _ => if notTuple e = true ∨ 4 ≤ es.length then match tgOf I (.Tuple es kk p), (cE call n I e).e with
      | some (_, t), some f => sAsg t f
      | _, _ => sBad
    else sBad
  | .Assign [.Subscript o i _] e _ => if notSlice i = true then match (cE call n I o).e, (cE call n I i).e, (cE call n I e).e with
      | some fo, some fi, some fe => sPut fo fi fe
      | _, _, _ => sBad
    else sBad
  | _ => sBad
/-- statements within a try -/
def xStmtOf (xs : List Stmt → SX) (ss : Inf → List Stmt → SS) (call : Str → GL) (n : Nat) (I : Inf) (st : Stmt) : SX := match st with
  | .Return (some e) _ => match (cE call n I e).e with
    | some f => xRet f
    | none => xLift sBad
  | .Expr e _ => if notComp e = true then match (cE call n I e).e with
      | some f => xDrop f
      | none => xLift sBad
    else xLift sBad
  | .If c a b _ => match (cE call n I c).t with
    | some t => xIte t (xs a) (xs b)
    | none => xLift sBad
  | .Assign [.Name x p] e pos => if notComp e = true then match nmPlace I (.Name x p), (cE call n I e).e with
      | some i, some f => xSet i f
      | _, _ => xLift sBad
    else xLift (stmtOf0 ss call n I (.Assign [.Name x p] e pos))
  | st => xLift (stmtOf0 ss call n I st)
def cXs (ss : Inf → List Stmt → SS) (call : Str → GL) (n : Nat) (I : Inf) : Nat → List Stmt → SX
  | 0, _ => xLift sBad
  | m + 1, sts => match sts with
    | [] => xSkip
    | [st] => xStmtOf (cXs ss call n I m) ss call n I st
    | st :: r => xSeq (xStmtOf (cXs ss call n I m) ss call n I st) (cXs ss call n I m r)
/-- the clauses without names -/
def hsOf (ss : Inf → List Stmt → SS) (I : Inf) : List ExceptHandler → Option (List (Str × SS))
  | [] => some []
  | .ExceptHandler (some (.Name T _)) none (b :: suite) _ :: r => if okName T = true ∧ glB I.sc T = true ∧ (I.xt.lookup T).isSome = true then (hsOf ss I r).map ((T, ss { I with hot := true } (b :: suite)) :: ·) else none
  | _ :: _ => none
def stmtOf (ss : Inf → List Stmt → SS) (call : Str → GL) (n : Nat) (I : Inf) (st : Stmt) : SS := match st with
  | .Raise (some (.Call (.Name c _) (a :: es) [] _)) none _ => if I.hot = false ∧ okName c = true ∧ glB I.sc c = true ∧ (a :: es).all notStar = true then match I.xt.lookup c, seqM (fun v => (cE call n I v).e) (a :: es) with
      | some q, some fs => if q.ms.isSome = true then sRaise c q fs else sBad
      | _, _ => sBad
    else sBad
  | .Try body [.ExceptHandler (some (.Name T _)) (some x) (b :: suite) _] [] [] _ => if (I.hot = false ∧ I.blk = false) ∧ okName T = true ∧ glB I.sc T = true ∧ locN I.sc x = true then match I.xt.lookup T, idxOf I.N x with
      | some _, some i => sTry I.xt (some i) (cXs ss call n I 40 body) [(T, ss { I with hot := true } (b :: suite))]
      | _, _ => sBad
    else sBad
  | .Try body (h :: hds) [] [] _ => if I.hot = false ∧ I.blk = false then match hsOf ss I (h :: hds) with
      | some l => sTry I.xt none (cXs ss call n I 40 body) l
      | none => sBad
    else sBad
  | st => stmtOf0 ss call n I st
/-- the names that stand for data from this statement on -/
def fzs (l : List (Nat × Nat)) (p : Nat) (f : SS) : SS := match l with
  | [] => f
  | q :: r => if q.1 = p then sFz q.2 (fzs r p f) else fzs r p f
def cSs (call : Str → GL) (n : Nat) : Nat → Inf → List Stmt → SS
  | 0, _, _ => sBad
  | m + 1, I, sts => match sts with
    | [] => sSkip
    | [st] => fzs I.fz (posKey st.pos) (stmtOf (cSs call n m) call n I st)
    | st :: r => sSeq (fzs I.fz (posKey st.pos) (stmtOf (cSs call n m) call n I st)) (cSs call n m I r)

section
variable {X : Cx} {W : WX} {E : XK} {I : Inf} {call : Str → GL} {k n : Nat}
theorem frz_lc {I : Inf} {o : Option SE} {elt : Expr} {gs : List Comprehension} {scope : Scope} {pos : Pos} {f : SE} (h : o.map (frz I (.ListComp elt gs scope pos)) = some f) : o = some f := by
  cases o with
  | none => cases h
  | some g => exact h
theorem xtra_lc {rec : Inf → Expr → CR} {elt tg it : Expr} {ifs : List Expr} {scope : Scope} {pos : Pos} : exprX call rec I (.ListComp elt [⟨tg, it, ifs, 0⟩] scope pos) = exprOf call rec I (.ListComp elt [⟨tg, it, ifs, 0⟩] scope pos) := rfl
theorem lc_inv {rec : Inf → Expr → CR} (hr : Sound call k rec) (C : Cok X W I call k) {elt tg it : Expr} {ifs : List Expr} {scope : Scope} {pos : Pos} {f : SE} (h : exprOf call rec I (.ListComp elt [⟨tg, it, ifs, 0⟩] scope pos) = some f) :
    ∃ (own : List (Str × Nat)) (wi : TI) (g : TG) (tt : TT) (te : TE), PI X tg it wi ∧ BlkOk X.N X.env.scope scope own ∧ (∀ (s : Shared) (H : Hp) (cn : Addr) (cl : List (Str × Addr)) (fp : List Addr), PG (X.blk s H scope (compEnvC scope cl cn X.env) fp) tg g) ∧
      (∀ (s : Shared) (H : Hp) (cn : Addr) (cl : List (Str × Addr)) (fp : List Addr), PTs (X.blk s H scope (compEnvC scope cl cn X.env) fp) ifs tt) ∧ (∀ (s : Shared) (H : Hp) (cn : Addr) (cl : List (Str × Addr)) (fp : List Addr), PE (X.blk s H scope (compEnvC scope cl cn X.env) fp) elt te) ∧
      (∀ x, foldedSetIterable it X.env x = pure x) ∧ X.calm = true ∧ ∀ σ H Q, LE X.F W f σ H Q → tLc wi g tt te (own.map (·.2)) σ H Q := by
  simp only [exprOf] at h
  split at h
  · rename_i hs
    split at h
    · rename_i is t fi fe h1 h2 h3
      split at h
      · rename_i hin
        have hin' : ∀ i ∈ is, i ∈ (ownOf I.N scope.names).map (·.2) := fun i hi => of_decide_eq_true (List.all_eq_true.mp hin i hi)
        have ok : BlkOk X.N X.env.scope scope (ownOf I.N scope.names) := blkOk_by (by rw [C.N, C.sc]; exact hs.1.1)
        split at h
        · cases h
          exact ⟨_, _, _, _, _, it_ok hr C h2, ok, (fun s H cn cl fp => by
              have q := tg_ok (blk_cok C hs.2 s H cn cl fp) h1
              rw [blk_F (C.calm hs.2)] at q
              exact q), (fun s H cn cl fp => blk_yes (C.calm hs.2)), (fun s H cn cl fp => by
              have q := (hr _ _ _ _ (blk_cok C hs.2 s H cn cl fp)).1 _ h3
              rw [blk_F (C.calm hs.2)] at q
              exact q), noFold hs.1.2 _, C.calm hs.2, fun σ H Q q => by
            split at q
            · exact le_compN hin' q
            · exact le_comp hin' q⟩
        · obtain ⟨tc, h4, rfl⟩ := Option.map_eq_some_iff.mp h
          exact ⟨_, _, _, _, _, it_ok hr C h2, ok, (fun s H cn cl fp => by
              have q := tg_ok (blk_cok C hs.2 s H cn cl fp) h1
              rw [blk_F (C.calm hs.2)] at q
              exact q), (fun s H cn cl fp => by
              have q := lts_one ((hr _ _ _ _ (blk_cok C hs.2 s H cn cl fp)).2 _ h4)
              rw [blk_F (C.calm hs.2)] at q
              exact q), (fun s H cn cl fp => by
              have q := (hr _ _ _ _ (blk_cok C hs.2 s H cn cl fp)).1 _ h3
              rw [blk_F (C.calm hs.2)] at q
              exact q), noFold hs.1.2 _, C.calm hs.2, fun σ H Q q => by
            split at q
            · exact le_compN hin' q
            · exact le_comp hin' q⟩
        · cases h
      · cases h
    · cases h
  · cases h
theorem swaps_lc {elt : Expr} {gs : List Comprehension} {scope : Scope} {pos py : Pos} {y : Str} {l : Nat} {env : PySem.Env} (hk : env.scope.kind = .function) :
    swapsWith (.ListComp elt gs scope pos) (some (.Name y py)) l env = pure (lcSw env.scope y py scope pos) := by
  have hb : env.blockKind = .function := by unfold Env.blockKind; rw [hk]; rfl
  unfold swapsWith lcSw
  simp only [hb, Expr.pos, Env.kindOf]
  cases h : env.scope.names.lookup y with
  | none => rfl
  | some kd => cases kd <;> rfl
theorem swaps_sole {t e : Expr} {l : Nat} {env : PySem.Env} : swapsWithSole [t] e l env = swapsWith e (some t) l env := rfl
theorem assign_sub {o i : Expr} {p : Pos} {env : PySem.Env} (h : notSlice i = true) : ∀ v, assign (.Subscript o i p) env v = (do
      let ov ← holding [v] (eval o env)
      let iv ← holding [v, ov] (eval i env)
      standAt p
      holding [v, ov, iv] (setItem ov iv v)
      release [v, ov, iv] []) := by
  cases i <;> first | (intro _; rfl) | cases h
theorem stores_nl {es : List Expr} {kk p e} {env : PySem.Env} (h : notTuple e = true ∨ 4 ≤ es.length) : swappedStores [.Tuple es kk p] e env = pure none := by
  rcases h with h | h
  · exact stores_none _ h
  · cases e with
    | Tuple vs k2 p2 =>
      have h1 : (!(es.length == 2 || es.length == 3) || vs.length != es.length || env.blockKind != .function) = true := by
        have h2 : (es.length == 2) = false := by rw [beq_eq_false_iff_ne]; omega
        have h3 : (es.length == 3) = false := by rw [beq_eq_false_iff_ne]; omega
        rw [h2, h3]
        rfl
      unfold swappedStores
      simp only [h1, if_true]
    | _ => rfl
theorem locN_of (C : Cok X W I call k) {x : Str} (h : locN I.sc x = true) : X.env.scope.names.lookup x = some .local := by
  rw [C.sc]
  unfold locN at h
  split at h
  · assumption
  · cases h
theorem swapped3 {x y z : Str} {px py pz pt pt2 : Pos} {kt k2} {a b c : Expr} {env : PySem.Env} (hk : env.scope.kind = .function) (hx : env.scope.names.lookup x = some .local) (hy : env.scope.names.lookup y = some .local) (hz : env.scope.names.lookup z = some .local)
    (l1 : (py.line == px.line) = true) (l2 : (pz.line == px.line) = true) (n1 : (x == y) = false) (n2 : (x == z) = false) (n3 : (y == z) = false) (hs : [a, b, c].all notStar = true) (hf : [a, b, c].all (foldedForSure 8) = false) (hc : [a, b, c].all (constantsAlone 8) = false) :
    swappedStores [.Tuple [.Name x px, .Name y py, .Name z pz] kt pt] (.Tuple [a, b, c] k2 pt2) env = pure (some [x, y, z]) := by
  have hb : env.blockKind = .function := by unfold Env.blockKind; rw [hk]; rfl
  have hst : ([a, b, c].any fun | .Starred .. => true | _ => false) = false := by
    rw [List.any_eq_false]
    intro e he
    have h1 := List.all_eq_true.mp hs e he
    cases e <;> first | exact Bool.false_ne_true | cases h1
  have kx : env.kindOf x = some .local := hx
  have ky : env.kindOf y = some .local := hy
  have kz : env.kindOf z = some .local := hz
  have l1 : py.line = px.line := by simpa using l1
  have l2 : pz.line = px.line := by simpa using l2
  have n1 : x ≠ y := by simpa using n1
  have n2 : x ≠ z := by simpa using n2
  have n3 : y ≠ z := by simpa using n3
  have hnot : (!(([Expr.Name x px, .Name y py, .Name z pz] : List Expr).length == 2 || ([Expr.Name x px, .Name y py, .Name z pz] : List Expr).length == 3) || ([a, b, c] : List Expr).length != ([Expr.Name x px, .Name y py, .Name z pz] : List Expr).length || env.blockKind != .function) = false := by rw [hb]; rfl
  have e0 : (([Expr.Name x px, .Name y py, .Name z pz].head?.map (·.pos.line)).getD 0) = px.line := rfl
  have key : ∀ (g : Expr → Option Str), g (.Name x px) = some x → g (.Name y py) = some y → g (.Name z pz) = some z → [Expr.Name x px, .Name y py, .Name z pz].filterMap g = [x, y, z] := by
    intro g h1 h2 h3
    simp [List.filterMap_cons, h1, h2, h3]
  unfold swappedStores
  simp only [hnot, Bool.false_eq_true, if_false]
  split
  · rename_i h
    obtain ⟨e, he, h2⟩ := List.any_eq_true.mp h
    have h1 := List.all_eq_true.mp hs e he
    cases e <;> first | exact absurd h2 Bool.false_ne_true | exact absurd h1 Bool.false_ne_true
  · split
    · rename_i h
      exfalso
      rw [key _ (by simp [Expr.pos, kx]) (by simp [Expr.pos, ky, l1]) (by simp [Expr.pos, kz, l2])] at h
      simp [List.eraseDups_cons, n1, n2, n3, Ne.symm n1, Ne.symm n2, Ne.symm n3] at h
    · split
      · rename_i h
        rw [hf] at h
        cases h
      · split
        · rename_i h
          rw [hc] at h
          cases h
        · rw [key _ (by simp [Expr.pos, kx]) (by simp [Expr.pos, ky, l1]) (by simp [Expr.pos, kz, l2])]
theorem stmt_ok0 {ss : Inf → List Stmt → SS} (hss : ∀ sts, PSs X sts (LS X.F E (ss I sts))) (C : Cok X (WI E) I call k) (st : Stmt) : PS X st (LS X.F E (stmtOf0 ss call n I st)) := by
  have hr := cE_ok call k n
  unfold stmtOf0
  split
  · exact ls_pass
  · exact ls_brk
  · exact ls_cnt
  · split
    · exact ls_doc
    · split
      · rename_i hn
        split
        · rename_i h1
          exact ls_drop ((hr I X _ _ C).1 _ h1) (swaps_none hn _ _)
        · exact ls_bad
      · exact ls_bad
  · split
    · rename_i h1
      exact ls_ret ((hr I X _ _ C).1 _ h1)
    · exact ls_bad
  · exact ls_retN
  · split
    · rename_i h1
      exact ls_if ((hr I X _ _ C).2 _ h1) (hss _) (hss _)
    · exact ls_bad
  · split
    · rename_i h1
      exact ls_while C.po ((hr I X _ _ C).2 _ h1) (hss _)
    · exact ls_bad
  · split
    · rename_i hn
      split
      · rename_i h1 h2
        exact ls_for C.po (C.calm hn.2) (it_ok hr C h2) (tg_ok C h1) (hss _) (noFold hn.1 _)
      · exact ls_bad
    · exact ls_bad
  · rename_i x p e pos
    split
    · rename_i i f h1 h2
      have hg := name_ok C h1
      simp only [nmPlace] at h1
      split at h1
      · rename_i j ej
        split at h1
        · rename_i hl
          cases h1
          obtain ⟨l1, l2⟩ := loc_of C hl
          have hN : X.N[i]? = some x := by rw [C.N]; exact idxOf_ok ej
          split
          · rename_i hn
            exact ls_set_of (t := tAsg (LE X.F (WI E) f) (gName i)) (ps_set C.nd hN l1 ((hr I X _ _ C).1 _ h2) (swaps_none hn _ _) l2)
          · split
            · rename_i elt tg it ifs scope lpos _
              split
              · rename_i hk
                have hkf : X.env.scope.kind = .function := by
                  rw [C.sc]
                  unfold kindFn at hk
                  split at hk
                  · assumption
                  · cases hk
                cases hsw : lcSw X.env.scope x p scope lpos with
                | false => exact ls_set_of (t := tAsg (LE X.F (WI E) f) (gName i)) (ps_set C.nd hN l1 ((hr I X _ _ C).1 _ h2) (by rw [swaps_lc hkf, hsw]) l2)
                | true =>
                  cases n with
                  | zero => cases h2
                  | succ n =>
                    obtain ⟨own, wi, g, tt, te, c1, c2, c3, c4, c5, c6, cc, c7⟩ := lc_inv (pos := lpos) (cE_ok call k n) C (frz_lc h2)
                    have hyl : X.env.scope.names.lookup x = some .local := by
                      unfold lcSw at hsw
                      simp only [Bool.and_eq_true] at hsw
                      have q := hsw.1.1
                      split at q
                      · assumption
                      · cases q
                    refine ls_set_of (t := tAsg (LE X.F (WI E) f) (gName i)) ((ps_setLc cc C.nd hN hyl (by rw [swaps_lc hkf, hsw]) c1 c2 c3 c4 c5 c6).weak fun D σ H q => ?_)
                    exact c7 σ H _ q
              · exact ls_bad
            · exact ls_bad
        · cases h1
      · cases h1
    · exact ls_bad
  · rename_i x px y py z pz kk p a b c k2 p2 pos
    split
    · rename_i hp
      obtain ⟨hp, hh⟩ := hp
      unfold parOk at hp
      simp only [Bool.and_eq_true, Bool.not_eq_true'] at hp
      obtain ⟨⟨⟨⟨⟨⟨⟨⟨⟨⟨⟨q1, q2⟩, q3⟩, q4⟩, q5⟩, q6⟩, q7⟩, q8⟩, q9⟩, q10⟩, q11⟩, q12⟩ := hp
      split
      · rename_i fa fb fc i j l h1 h2 h3 h4 h5 h6
        have N1 : X.N[i]? = some x := by rw [C.N]; exact idxOf_ok h4
        have N2 : X.N[j]? = some y := by rw [C.N]; exact idxOf_ok h5
        have N3 : X.N[l]? = some z := by rw [C.N]; exact idxOf_ok h6
        have m1 : x ≠ y := by simpa using q7
        have m2 : x ≠ z := by simpa using q8
        have m3 : y ≠ z := by simpa using q9
        have hkf : X.env.scope.kind = .function := by
          rw [C.sc]
          unfold kindFn at q1
          split at q1
          · assumption
          · cases q1
        have sa : notStar a = true ∧ notStar b = true ∧ notStar c = true := by simpa using q10
        refine ls_par3 (fun ta hta => ps_par3 (C.calm hh) C.nd N1 N2 N3 (fun e => ?_) (fun e => ?_) (fun e => ?_) (locN_of C q2) (locN_of C q3) (locN_of C q4) hta (swapped3 hkf (locN_of C q2) (locN_of C q3) (locN_of C q4) q5 q6 q7 q8 q9 q10 q11 q12)) ((hr I X _ _ C).1 _ h1) ((hr I X _ _ C).1 _ h2) ((hr I X _ _ C).1 _ h3) (star_cons sa.1) (star_cons sa.2.1) (star_cons sa.2.2)
        · rw [e, N2] at N1; exact m1 (Option.some.inj N1).symm
        · rw [e, N3] at N1; exact m2 (Option.some.inj N1).symm
        · rw [e, N3] at N2; exact m3 (Option.some.inj N2).symm
      · exact ls_bad
    · exact ls_bad
  · split
    · rename_i hn
      split
      · rename_i h1 h2
        exact ls_asg ((hr I X _ _ C).1 _ h2) (tg_ok C h1) (by rw [swaps_sole]; exact swaps_tup _ _ (fun _ _ z => nomatch z)) (stores_nl hn) rfl
      · exact ls_bad
    · exact ls_bad
  · split
    · rename_i hn
      split
      · rename_i h1 h2 h3
        exact ls_put C.u1 ((hr I X _ _ C).1 _ h1) ((hr I X _ _ C).1 _ h2) ((hr I X _ _ C).1 _ h3) (by rw [swaps_sole]; exact swaps_tup _ _ (fun _ _ z => nomatch z)) (stores_none' _ rfl (fun _ _ z => nomatch z)) (assign_sub hn)
      · exact ls_bad
    · exact ls_bad
  · exact ls_bad
theorem xStmt_ok {ss : Inf → List Stmt → SS} {xs : List Stmt → SX} (hss : ∀ sts, PSs X sts (LS X.F (fun _ _ _ => False) (ss I sts))) (hxs : ∀ sts, PSs X sts (LX X.F W (xs sts))) (C : Cok X W I call k) (st : Stmt) : PS X st (LX X.F W (xStmtOf xs ss call n I st)) := by
  have hr := cE_ok call k n
  have C0 : Cok X (WI fun _ _ _ => False) I call k := ⟨C.N, C.nd, C.sc, C.hot1, C.fn, C.po, fun u s' ⟨_, _, _, _, _, _, _, _, _, _, _, _, _, _, _, _, w⟩ => w.elim, C.glob, C.globH, C.xo, C.fr⟩
  unfold xStmtOf
  split
  · split
    · rename_i h1
      exact lx_ret ((hr I X _ _ C).1 _ h1)
    · exact lx_lift ls_bad
  · split
    · rename_i hn
      split
      · rename_i h1
        exact lx_drop ((hr I X _ _ C).1 _ h1) (swaps_none hn _ _)
      · exact lx_lift ls_bad
    · exact lx_lift ls_bad
  · split
    · rename_i h1
      exact lx_if ((hr I X _ _ C).2 _ h1) (hxs _) (hxs _)
    · exact lx_lift ls_bad
  · rename_i x p e pos
    split
    · rename_i hn
      split
      · rename_i i f h1 h2
        simp only [nmPlace] at h1
        split at h1
        · rename_i j ej
          split at h1
          · rename_i hl
            cases h1
            obtain ⟨l1, l2⟩ := loc_of C hl
            have hN : X.N[i]? = some x := by rw [C.N]; exact idxOf_ok ej
            exact lx_set_of (ps_set C.nd hN l1 ((hr I X _ _ C).1 _ h2) (swaps_none hn _ _) l2)
          · cases h1
        · cases h1
      · exact lx_lift ls_bad
    · exact lx_lift (stmt_ok0 hss C0 _)
  · exact lx_lift (stmt_ok0 hss C0 _)
theorem cXs_ok {ss : Inf → List Stmt → SS} (hss : ∀ sts, PSs X sts (LS X.F (fun _ _ _ => False) (ss I sts))) (C : Cok X W I call k) : ∀ (m : Nat) (sts : List Stmt), PSs X sts (LX X.F W (cXs ss call n I m sts))
  | 0, sts => pss_never.weak fun D σ H ⟨Γ, S, ρ, hS, hE, hp⟩ => hp.elim
  | m + 1, sts => by
    unfold cXs
    split
    · exact lx_nil
    · exact lx_one (xStmt_ok hss (cXs_ok hss C m) C _)
    · exact lx_cons (xStmt_ok hss (cXs_ok hss C m) C _) (cXs_ok hss C m _)
theorem tr_cok (C : Cok X W I call k) (hh : I.hot = false) {W' : WX} {pn : List (Addr × Obj)} {xe : Value → Shared → Prop} (tk : L2N.Takes (X.tr pn xe) W') (po : PassesOwn (model X.prog X.w) X.A X.env xe) : Cok (X.tr pn xe) W' I call k :=
  ⟨C.N, C.nd, C.sc, ⟨fun _ => C.hot1.cool hh, (fun z => absurd (hh.symm.trans z) Bool.false_ne_true), C.hot1.room⟩, C.fn, po, tk, C.glob, C.globH, C.xo, C.fr⟩
theorem tr_F (hc : X.calm = true) {pn : List (Addr × Obj)} {xe : Value → Shared → Prop} : (X.tr pn xe).F = X.F := by
  rw [F_calm hc]
  exact F_calm (X := X.tr pn xe) hc
theorem suite_cok (C : Cok X W I call k) {a : Addr} {oe : Obj} {cls : Value} {d : Option Addr} {pn : List (Addr × Obj)} (hz : L2N.Zn cls d oe) (hf : ∃ vs, oe.data = .fields vs) : Cok (X.suite a ((a, oe) :: pn)) (WI fun _ _ _ => False) { I with hot := true } call k := by
  obtain ⟨vs, hv⟩ := hf
  exact ⟨C.N, C.nd, C.sc, ⟨(fun z => nomatch z), fun _ => ⟨rfl, (a, oe), rfl, rfl, vs, hv, hz.2.2 vs hv⟩, ⟨C.hot1.room.dp, C.hot1.room.un⟩⟩, C.fn, PassesOwn.never, fun u s' ⟨_, _, _, _, _, _, _, _, _, _, _, _, _, _, _, _, w⟩ => w.elim, C.glob, C.globH, C.xo, C.fr⟩
theorem suite_F {a : Addr} {oe : Obj} {cls : Value} {d : Option Addr} {pn : List (Addr × Obj)} (hz : L2N.Zn cls d oe) : (X.suite a ((a, oe) :: pn)).F = ⟨⟨X.K, X.w⟩, X.mg, some (a, cls, d)⟩ := by
  rw [F_hot (X := X.suite a ((a, oe) :: pn)) (p := (a, oe)) rfl rfl]
  show (⟨⟨X.K, X.w⟩, X.mg, some (a, oe.cls, oe.dict)⟩ : Fx) = _
  rw [hz.1, hz.2.1]
theorem stmt_ok {ss : Inf → List Stmt → SS} (hss : ∀ (X : Cx) (E : XK) (I : Inf), Cok X (WI E) I call k → ∀ sts, PSs X sts (LS X.F E (ss I sts))) (C : Cok X (WI E) I call k) (st : Stmt) : PS X st (LS X.F E (stmtOf ss call n I st)) := by
  have hr := cE_ok call k n
  have hbody : I.hot = false → ∀ (body : List Stmt) (W : WX) (pn : List (Addr × Obj)) (xe : Value → Shared → Prop), L2N.Takes (X.tr pn xe) W → PassesOwn (model X.prog X.w) X.A X.env xe → PSs (X.tr pn xe) body (LX X.F W (cXs ss call n I 40 body)) := fun hh body W pn xe tk po => by
    have C1 := tr_cok C hh tk po
    have C0 := tr_cok C hh (W' := WI fun _ _ _ => False) (pn := pn) (xe := xe) (fun u s' ⟨_, _, _, _, _, _, _, _, _, _, _, _, _, _, _, _, w⟩ => w.elim) po
    have q := cXs_ok (n := n) (fun sts => hss _ _ _ C0 sts) C1 40 body
    rw [tr_F (C.calm hh)] at q
    exact q
  have hsuite : ∀ (b : Stmt) (suite : List Stmt) (a : Addr) (oe : Obj) (cls : Value) (d : Option Addr) (pn : List (Addr × Obj)), L2N.Zn cls d oe → (∃ vs, oe.data = .fields vs) → PSs (X.suite a ((a, oe) :: pn)) (b :: suite) (LS ⟨⟨X.K, X.w⟩, X.mg, some (a, cls, d)⟩ (fun _ _ _ => False) (ss { I with hot := true } (b :: suite))) := fun b suite a oe cls d pn hz hf => by
    have q := hss _ _ _ (suite_cok (pn := pn) (a := a) C hz hf) (b :: suite)
    rw [suite_F hz] at q
    exact q
  unfold stmtOf
  split
  · rename_i c p a es pos pos2
    split
    · rename_i hh
      obtain ⟨hh, ho, hg, hst⟩ := hh
      split
      · rename_i q fs h1 h2
        split
        · rename_i h3
          obtain ⟨ms, hms⟩ := Option.isSome_iff_exists.mp h3
          have hs' : notStar a = true ∧ es.all notStar = true := by simpa using hst
          exact ls_raise (C.calm hh) (C.hot.cool hh).2 (by have := C.hot.room.dp; omega) C.tk C.xo h1 hms (gl_of C hg) (ok_of ho).1 (args_ok hr C hst h2) (star_cons hs'.1) (back_any _ hs'.2)
        · exact ls_bad
      · exact ls_bad
    · exact ls_bad
  · rename_i body T np x b suite pos' pos
    split
    · rename_i hh
      obtain ⟨⟨hh, hbl⟩, ho, hg, hx⟩ := hh
      split
      · rename_i q i h1 h2
        obtain ⟨f1, f2⟩ := C.fr hbl
        exact ls_try_as f1 f2 C.nd (by rw [C.N]; exact idxOf_ok h2) (locN_of C hx) (C.calm hh) C.tk C.xo h1 (gl_of C hg) (ok_of ho).1 (hbody hh body) (hsuite b suite)
      · exact ls_bad
    · exact ls_bad
  · rename_i body h hds pos _
    split
    · rename_i hh
      obtain ⟨hh, hbl⟩ := hh
      split
      · rename_i l hl
        obtain ⟨f1, f2⟩ := C.fr hbl
        refine ls_try_many f1 f2 (C.calm hh) C.tk C.xo (hbody hh body) ?_
        have gen : ∀ (hs : List ExceptHandler) (l : List (Str × SS)), hsOf ss I hs = some l → HsOk X I.xt hs l := by
          intro hs
          induction hs with
          | nil =>
            intro l hl
            cases hl
            exact .nil
          | cons h0 r ih =>
            intro l hl
            unfold hsOf at hl
            split at hl
            · rename_i e1
              cases e1
            · rename_i T np b suite pos' r' e1
              cases e1
              split at hl
              · rename_i hq
                obtain ⟨ho, hg, hq⟩ := hq
                obtain ⟨l', h1, rfl⟩ := Option.map_eq_some_iff.mp hl
                obtain ⟨q, hq⟩ := Option.isSome_iff_exists.mp hq
                exact .cons hq (gl_of C hg) (ok_of ho).1 (hsuite b suite) (ih _ h1)
              · cases hl
            · cases hl
        exact gen _ _ hl
      · exact ls_bad
    · exact ls_bad
  · exact stmt_ok0 (fun sts => hss X E I C sts) C _
theorem fzs_ok {st : Stmt} {f : SS} {p : Nat} (h : PS X st (LS X.F E f)) : ∀ l : List (Nat × Nat), PS X st (LS X.F E (fzs l p f))
  | [] => h
  | q :: r => by
    unfold fzs
    split
    · exact ls_fz (fzs_ok h r)
    · exact fzs_ok h r
theorem cSs_ok (call : Str → GL) (k n : Nat) : ∀ (m : Nat) (X : Cx) (E : XK) (I : Inf), Cok X (WI E) I call k → ∀ sts, PSs X sts (LS X.F E (cSs call n m I sts))
  | 0, X, E, I, C, sts => pss_never.weak fun D σ H ⟨Γ, S, ρ, hS, hE, hp⟩ => hp.elim
  | m + 1, X, E, I, C, sts => by
    unfold cSs
    split
    · exact ls_nil
    · exact ls_one (fzs_ok (stmt_ok (cSs_ok call k n m) C _) _)
    · exact ls_cons (fzs_ok (stmt_ok (cSs_ok call k n m) C _) _) (cSs_ok call k n m X E I C _)
end
end L2.Pv

set_option Elab.async false
set_option linter.all false
set_option maxRecDepth 100000
namespace L2.Pv
open PySem PySem.Spec PyProof.Rows L2

/-! ### defs -/
def fnEnd (keep : Bool) (n : Nat) : R Fl → R Vl
  | .ok (.rt v) S' => fin keep n v S'
  | .ok (.nx _) S' => fin keep n (.d .none) S'
  | .exc c fs S' => .exc c fs (S'.take n)
  | _ => .bad
def fnSem (body : SS) (np nN : Nat) (keep : Bool) : GL := fun vs S =>
  if vs.length = np then fnEnd keep S.length (body (vs.map some ++ List.replicate (nN - np) none) S) else .bad
structure Ent where
  x : Str
  st : Stmt
  ps : List Str
  N : List Str
  keep : Bool
  hot : Bool
  new : List Nat
  fz : List (Nat × Nat)
  kw : List (Str × PyData)
  body : (Str → GL) → SS
def entAt (T : List Ent) (x : Str) : Option Ent := T.find? (·.x == x)
def run (T : List Ent) : Nat → Str → GL
  | 0, _ => fun _ _ => .bad
  | k + 1, x => match entAt T x with
    | some e => fnSem (e.body (run T k)) e.ps.length e.N.length e.keep
    | none => fun _ _ => .bad
structure EntOk (xt : List (Str × XC)) (G GH : List (Str × GE)) (e : Ent) : Prop where
  body : ∀ call, cSs call 40 400 ⟨e.N, defScope e.st, false, false, xt, G, GH, e.new, e.fz⟩ (defBody e.st) = e.body call
  bodyH : e.hot = true → ∀ call, cSs call 40 400 ⟨e.N, defScope e.st, false, true, xt, G, GH, e.new, e.fz⟩ (defBody e.st) = e.body call
  sc : FnScope e.N e.ps (defScope e.st)
/-- how a def is called -/
def BdOk (K : Fg) (fd : FuncData) (ps : List Str) : List (Str × PyData) → Prop
  | [] => Binds K.K fd ps []
  | q :: r => FkB K fd ps (ps.length - (q :: r).length) (q :: r) ∧ (q :: r).length ≤ ps.length
structure TabOk (K : Fg) (mg : Str → Option Value) (xt : List (Str × XC)) (G GH : List (Str × GE)) (T : List Ent) : Prop where
  st : ∀ e ∈ T, EntOk xt G GH e
  fn : ∀ e ∈ T, ∃ f fd, Fun K.K e.x e.x e.st f fd ∧ mg e.x = some (.ref f) ∧ BdOk K fd e.ps e.kw
  gl : ∀ x b, G.lookup x = some (.blt b) → mg x = none ∧ x = biName b
  gc : ∀ x d, G.lookup x = some (.con d) → ∃ u v, mg x = some u ∧ RelV v u ∧ Rp K HN [] v d
  gf : ∀ x n, G.lookup x = some (.fn n) → ∃ e, entAt T x = some e ∧ e.ps.length = n ∧ e.kw = []
  gk : ∀ x n ks, G.lookup x = some (.fk n ks) → ∃ e, entAt T x = some e ∧ e.ps.length = n + ks.length ∧ e.kw = ks ∧ ks ≠ []
  gh : ∀ x g, GH.lookup x = some g → G.lookup x = some g
  hf : ∀ x n, GH.lookup x = some (.fn n) → ∀ e, entAt T x = some e → e.hot = true
  hk : ∀ x n ks, GH.lookup x = some (.fk n ks) → ∀ e, entAt T x = some e → e.hot = true

section
variable {P : Program} {w : World} {K : Fx} {mg : Str → Option Value} {base : Heap} {xt : List (Str × XC)} {G GH : List (Str × GE)} {T : List Ent} {ρ ρ' : Pl} {S S1 S' : Sto} {H H' : Hp}
theorem enr_start {vs : List V} {ds : List Vl} (h : VrL K H ρ vs ds) (n : Nat) : EnR K H ρ (vs.map some ++ List.replicate n none) (ds.map some ++ List.replicate n none) := by
  refine pairedAppend ?_ ?_
  · induction h with
    | nil => exact .nil
    | cons a b ih => exact .cons (fun v e => by cases e; exact ⟨_, rfl, a⟩) ih
  · induction n with
    | zero => exact .nil
    | succ n ih =>
      rw [List.replicate_succ, List.replicate_succ]
      exact .cons (fun v e => by cases e) ih
theorem entAt_mem {x : Str} {e : Ent} (h : entAt T x = some e) : e ∈ T ∧ e.x = x := by
  unfold entAt at h
  exact ⟨List.mem_of_find?_eq_some h, by simpa using List.find?_some h⟩
theorem sc_end {E : XK} {keep : Bool} {Q : VK} (hS : StR K ρ S H) {r : R Fl} (h : Pst K E (Vr K) ρ H (fnEnd keep S.length r) Q) : PstS K E { nx := fun _ H' => Q .non H', rt := Q } ρ H r := by
  cases r with
  | bad => exact h.elim
  | exc c fs S1 =>
    have h : ContX K ρ H (S1.take S.length) c fs E := h
    exact fun ρ' H' C d x hS1 hC hd => by
      obtain ⟨e1, s1, cv⟩ := back_ok hS x hS1
      exact h _ _ C d e1 s1 hC (back_xd hS x hS1 hd)
  | ok fl S1 =>
    cases fl with
    | nx Γ =>
      obtain ⟨v, S', hg, hc⟩ := Pst.leaf (r := fin keep S.length (.d .none) S1) h nx_fin
      exact fun ρ' H' σ' hx hS' hE' => by
        obtain ⟨ρ2, g1, g2, g3⟩ := fin_ok (keep := keep) hS hx hS' (v := .d .none) (x := .non) (show Rp _ _ _ _ _ from .non) hg
        exact hc ρ2 H' _ g1 g2 g3
    | rt v =>
      obtain ⟨v2, S', hg, hc⟩ := Pst.leaf (r := fin keep S.length v S1) h nx_fin
      exact fun ρ' H' y hx hS' hy => by
        obtain ⟨ρ2, g1, g2, g3⟩ := fin_ok hS hx hS' hy hg
        exact hc ρ2 H' _ g1 g2 g3
    | bk Γ => exact h.elim
    | ct Γ => exact h.elim
/-- a def's body -/
theorem body_sp {X : Cx} {E : XK} {e : Ent} {k l : Nat} {hot : Bool} {vs : List V} {Q : VK} (C : Cok X (WI E) ⟨e.N, defScope e.st, false, hot, xt, G, GH, e.new, e.fz⟩ (run T k) l) (hb : cSs (run T k) 40 400 ⟨e.N, defScope e.st, false, hot, xt, G, GH, e.new, e.fz⟩ (defBody e.st) = e.body (run T k))
    (he : entAt T e.x = some e) (h : SpD X.F e.ps.length (run T (k + 1) e.x) vs H Q E) : ∃ t, PSs X (defBody e.st) t ∧ t { nx := fun _ H' => Q .non H', rt := Q } (start e.N vs) H := by
  have body := cSs_ok (run T k) l 40 400 X E _ C (defBody e.st)
  rw [hb] at body
  obtain ⟨hl, ρ, S, ds, hS, hv, hp⟩ := h
  refine ⟨_, body, ds.map some ++ List.replicate (e.N.length - e.ps.length) none, S, ρ, hS, ?_, sc_end (keep := e.keep) hS ?_⟩
  · show EnR X.F H ρ (start e.N vs) _
    unfold start
    rw [hl]
    exact enr_start hv _
  · simp only [run, he, fnSem] at hp
    split at hp
    · exact hp
    · exact hp.elim
/-- a def that may be called where p is handled -/
theorem fn_hot {K : PySem.W.Frag} {CX : CXT} {k : Nat} {f : Addr} {x qual : Str} {st : Stmt} {fd : FuncData} {N ps : List Str} {sp : Addr × Obj → Sp} (F : Fun K x qual st f fd) (S : FnScope N ps (defScope st)) (len : ∀ p vs H Q E, sp p vs H Q E → vs.length = ps.length)
    (hbody : ∀ (cdv : Value) (A : Around) (outer : List PySem.Env) (s : Shared) (H : Hp) (vs : List V) (Q : VK) (E : XK) (p : Addr × Obj), L2H.Hot1 A p → L2H.RoomH k (A.deeper (envOfC qual (defScope st) s.heap.objs.size f cdv)) → sp p vs H Q E →
      ∃ t, PSs (L2H.cxH CX P w K mg base N qual (defScope st) f cdv A outer s H E p) (defBody st) t ∧ t { nx := fun _ H' => Q .non H', rt := Q } (start N vs) H) : FnHp P w K mg base CX (k + 1) f fd ps sp := by
  obtain ⟨oc, od, kV, doc, pm, an, cdv, ct, osl, rfl, lk, hcd⟩ := F.ex
  refine ⟨len, fun A outer s H args us vs Q E p hr hot hpin e0 hb r hsp => ?_⟩
  -- as the kit's rule, the promise knows p
  let spP : Sp := fun vs' H' Q' E' => sp p vs' H' Q' E'
  have KX : K.In s.heap := e0.mod.kin.keeps fun b o e => (e0.bs b o e).1
  have lim : s.heap.NoLimit := e0.mod.nolimit.keeps fun b o e => (e0.bs b o e).1
  have hkind : ∀ y ∈ ps.zip us, (defScope st).names.lookup y.1 = some .local ∨ ((defScope st).names.lookup y.1 = some .cell ∧ ((cellsFrom (s.heap.objs.size + 1) (defScope st).names []).lookup y.1).isSome = true) := fun y hy => by
    rcases S.par y.1 (List.of_mem_zip (a := y.1) (b := y.2) hy).1 with q | q
    · exact .inl q
    · exact .inr ⟨q, PySem.W.cellsFrom_some _ _ _ (.inl q)⟩
  refine codeAny_call_function hr.depth (KX _ _ lk) rfl S.co S.gen rfl (PySem.W.codeRec_of KX hcd) (hb _ _ _ _ ?_)
  refine wpAny_newFunctionEnv_cells S.kind hkind fun env he s1 x => ?_
  subst he
  refine ⟨lim.keeps x.toInCall.keep, codeAny_func ?_⟩
  obtain ⟨t, ht, hq⟩ := hbody cdv A outer s H vs Q E p hot (hr.deeper _) hsp
  have I := L2H.inv_startH (CX := CX) (E := E) S hpin e0 (len _ _ _ _ _ hsp) r x
  refine wpAny_mono (ht.run [] s1 (start N vs) H _ I hq) (fun fl s' hs => ?_) fun _ _ z => z
  cases fl with
  | next =>
    obtain ⟨_, H', J, q⟩ := hs
    exact ⟨.non, H', J.os, J.bare, J.base, J.hok, rfl, q⟩
  | ret u =>
    obtain ⟨v, _, H', J, rv, q⟩ := hs
    exact ⟨v, H', J.os, J.bare, J.base, J.hok, rv, q⟩
  | brk =>
    obtain ⟨_, _, _, z⟩ := hs
    exact z.elim
  | cont =>
    obtain ⟨_, _, _, z⟩ := hs
    exact z.elim
theorem glob_all {K : PySem.W.Frag} {X : Cx} {k l : Nat} (hX : X.prog = P ∧ X.w = w ∧ X.K = K ∧ X.mg = mg ∧ X.base = base) (ok : TabOk ⟨K, w⟩ mg xt G GH T) (ih : ∀ (x : Str) (e : Ent), entAt T x = some e →
    ∃ f fd, mg x = some (.ref f) ∧ PySem.W.keepIn K (.ref f) = true ∧ BdOk ⟨K, w⟩ fd e.ps e.kw ∧ Fun K e.x e.x e.st f fd ∧ FnX false P w K mg base l f fd e.ps e.ps.length (run T k x) ∧ (e.hot = true → FnX true P w K mg base l f fd e.ps e.ps.length (run T k x))) :
    (∀ x g, G.lookup x = some g → GOk X false (run T k) l x g) ∧ ∀ x g, GH.lookup x = some g → GOk X true (run T k) l x g := by
  obtain ⟨rfl, rfl, rfl, rfl, rfl⟩ := hX
  refine ⟨fun y ge hy => ?_, fun y ge hy => ?_⟩
  · cases ge with
    | blt b => exact ok.gl y b hy
    | con d => exact ok.gc y d hy
    | fn n =>
      obtain ⟨e', he', hn, hkw⟩ := ok.gf y n hy
      obtain ⟨f', fd', h1, h2, h3, _, h4, _⟩ := ih y e' he'
      rw [hkw] at h3
      exact ⟨f', fd', e'.ps, h1, h2, h3, by rw [← hn]; exact h4⟩
    | fk n ks =>
      obtain ⟨e', he', hn, hkw, hne⟩ := ok.gk y n ks hy
      obtain ⟨f', fd', h1, h2, h3, _, h4, _⟩ := ih y e' he'
      rw [hkw] at h3
      cases ks with
      | nil => exact absurd rfl hne
      | cons q r =>
        obtain ⟨h3, h5⟩ := h3
        have : e'.ps.length - (q :: r).length = n := by omega
        rw [this] at h3
        exact ⟨f', fd', e'.ps, h1, h2, h3, by rw [← hn]; exact h4⟩
  · have hy2 := ok.gh y ge hy
    cases ge with
    | blt b => exact ok.gl y b hy2
    | con d => exact ok.gc y d hy2
    | fn n =>
      obtain ⟨e', he', hn, hkw⟩ := ok.gf y n hy2
      obtain ⟨f', fd', h1, h2, h3, _, _, h4⟩ := ih y e' he'
      rw [hkw] at h3
      exact ⟨f', fd', e'.ps, h1, h2, h3, by rw [← hn]; exact h4 (ok.hf y n hy e' he')⟩
    | fk n ks =>
      obtain ⟨e', he', hn, hkw, hne⟩ := ok.gk y n ks hy2
      obtain ⟨f', fd', h1, h2, h3, _, _, h4⟩ := ih y e' he'
      rw [hkw] at h3
      cases ks with
      | nil => exact absurd rfl hne
      | cons q r =>
        obtain ⟨h3, h5⟩ := h3
        have : e'.ps.length - (q :: r).length = n := by omega
        rw [this] at h3
        exact ⟨f', fd', e'.ps, h1, h2, h3, by rw [← hn]; exact h4 (ok.hk y n _ hy e' he')⟩
/-- every def keeps what its body means -/
theorem fn_all {K : PySem.W.Frag} (xo : XtOk P w K mg base xt) (ok : TabOk ⟨K, w⟩ mg xt G GH T) : ∀ (k : Nat) (x : Str) (e : Ent), entAt T x = some e →
    ∃ f fd, mg x = some (.ref f) ∧ PySem.W.keepIn K (.ref f) = true ∧ BdOk ⟨K, w⟩ fd e.ps e.kw ∧ Fun K e.x e.x e.st f fd ∧ FnX false P w K mg base (2 * k) f fd e.ps e.ps.length (run T k x) ∧ (e.hot = true → FnX true P w K mg base (2 * k) f fd e.ps e.ps.length (run T k x))
  | 0, x, e, he => by
    obtain ⟨hm, rfl⟩ := entAt_mem he
    obtain ⟨f, fd, F, hmg, hb⟩ := ok.fn e hm
    refine ⟨f, fd, hmg, F.kp, hb, F, ⟨fun vs H Q E h => h.1, fun A outer s H args us vs Q E hr e0 hbd hv h => ?_⟩, fun _ => ⟨fun p vs H Q E h => h.1, fun A outer s H args us vs Q E p hr hot hpin e0 hbd hv h => ?_⟩⟩
    · obtain ⟨_, ρ, S, ds, _, _, hg⟩ := h
      exact hg.elim
    · obtain ⟨_, ρ, S, ds, _, _, hg⟩ := h
      exact hg.elim
  | k + 1, x, e, he => by
    obtain ⟨hm, rfl⟩ := entAt_mem he
    obtain ⟨f, fd, F, hmg, hb⟩ := ok.fn e hm
    have E0 := ok.st e hm
    have ih := fn_all xo ok k
    refine ⟨f, fd, hmg, F.kp, hb, F, ?_, fun hh => ?_⟩
    · obtain ⟨oc, od, kV, doc, pm, an, cdv, ct, osl, efd, lk, hcd⟩ := F.ex
      show FnOk P w K mg base (L2N.CX P w) (2 * k + 1 + 1) f fd e.ps (SpD ⟨⟨K, w⟩, mg, none⟩ e.ps.length (run T (k + 1) e.x))
      rw [efd]
      refine fn_of (efd ▸ lk) hcd E0.sc (fun vs H Q E h => h.1) fun A outer s H vs Q E hr h => ?_
      generalize hX : cxOf (L2N.CX P w) P w K mg base e.N e.x (defScope e.st) f cdv A outer s H E = X
      obtain ⟨g1, g2⟩ := glob_all (X := X) (k := k) (l := 2 * k) (by subst hX; exact ⟨rfl, rfl, rfl, rfl, rfl⟩) ok ih
      have C : Cok X (WI E) ⟨e.N, defScope e.st, false, false, xt, G, GH, e.new, e.fz⟩ (run T k) (2 * k) := by
        subst hX
        exact ⟨rfl, E0.sc.nd, rfl, ⟨fun _ => ⟨rfl, hr.hd⟩, (fun z => nomatch z), L2H.roomH_of hr⟩, fun _ _ => rfl, passes_of rfl, L2N.takes_of rfl rfl rfl rfl, g1, g2, xo, fun _ => ⟨rfl, rfl⟩⟩
      have hF : X.F = ⟨⟨K, w⟩, mg, none⟩ := by subst hX; rfl
      rw [← hF] at h
      exact body_sp C (E0.body _) he h
    · show FnHp P w K mg base (L2N.CX P w) (2 * k + 1 + 1) f fd e.ps fun p => SpD ⟨⟨K, w⟩, mg, some (hxo p)⟩ e.ps.length (run T (k + 1) e.x)
      refine fn_hot F E0.sc (fun p vs H Q E h => h.1) fun cdv A outer s H vs Q E p hot hr h => ?_
      generalize hX : L2H.cxH (L2N.CX P w) P w K mg base e.N e.x (defScope e.st) f cdv A outer s H E p = X
      obtain ⟨g1, g2⟩ := glob_all (X := X) (k := k) (l := 2 * k) (by subst hX; exact ⟨rfl, rfl, rfl, rfl, rfl⟩) ok ih
      have C : Cok X (WI E) ⟨e.N, defScope e.st, false, true, xt, G, GH, e.new, e.fz⟩ (run T k) (2 * k) := by
        subst hX
        exact ⟨rfl, E0.sc.nd, rfl, ⟨(fun z => nomatch z), fun _ => ⟨rfl, p, rfl, hot⟩, hr⟩, fun _ _ => rfl, passes_of rfl, L2N.takes_of rfl rfl rfl rfl, g1, g2, xo, fun _ => ⟨rfl, rfl⟩⟩
      have hF : X.F = ⟨⟨K, w⟩, mg, some (hxo p)⟩ := by subst hX; rfl
      rw [← hF] at h
      exact body_sp C (E0.bodyH hh _) he h
/-- the law -/
theorem law_sp {k : Nat} {a : Addr} {ns : List Int} {T : List Ent} {K : Fx} {E : XK} (hS : SqL K.K H a (ns.map V.int)) (h : run T k "law" [.k (ns.map .int)] [] = .ok (.d (.bool true)) []) : SpD K 1 (run T k "law") [.ref a] H (fun v _ => v = .bl true) E := by
  refine ⟨rfl, ⟨[], []⟩, [], [.k (ns.map .int)], ⟨List.nodup_nil, (fun a h => by cases h), (fun a h => by cases h), .nil⟩, .cons ⟨a, ns.map V.int, rfl, ?_, RpL.map (fun i => .int i) ns⟩ .nil, ?_⟩
  · rcases hS with hS | hS
    · exact .inl ⟨hS, by simp⟩
    · exact .inr hS
  · rw [h]
    intro ρ' H' x _ _ hx
    cases (show Rp _ _ _ _ _ from hx)
    rfl
end
end L2.Pv

set_option Elab.async false
set_option linter.all false
set_option maxRecDepth 100000
namespace L2.Pv
open PySem PySem.Spec PyProof.Rows L2
/-- a def with one keyword-only parameter, None where it is not written -/
theorem fkb_mk {K : PySem.W.Frag} {w : World} {x qual q : Str} {st : Stmt} {f D : Addr} {oc : Value} {od an : Option Addr} {osl : Array (Option Value)} {doc pm cdv ct : Value} {ps : List Str} {n : Nat}
    (l : K.lookup f = some ⟨oc, od, .func (PySem.W.fnOf x qual (defArgs st) (defBody st) (defScope st) .none (.ref D) doc pm an cdv ct), osl⟩) (c : PySem.W.codeIn K cdv qual = true) (k : PySem.W.keepIn K (.ref f) = true) (hn : n + 1 = ps.length) (hq : PySem.W.nsIn K D q = some (some .none))
    (h : ∀ (D : Addr) (doc pm : Value) (an : Option Addr) (cdv ct : Value) (us ks : List Value), us.length = n → ks.length = 1 → KwChain D ([q].zip ks) (bindArgs (PySem.W.fnOf x qual (defArgs st) (defBody st) (defScope st) .none (.ref D) doc pm an cdv ct) ⟨us, []⟩) (ps.zip (us ++ ks)))
    (h2 : ∀ (D : Addr) (doc pm : Value) (an : Option Addr) (cdv ct : Value) (us ws : List Value), us.length = n → ws.length = 1 → bindArgs (PySem.W.fnOf x qual (defArgs st) (defBody st) (defScope st) .none (.ref D) doc pm an cdv ct) ⟨us, [q].zip ws⟩ = pure (ps.zip (us ++ ws))) :
    FkB ⟨K, w⟩ (PySem.W.fnOf x qual (defArgs st) (defBody st) (defScope st) .none (.ref D) doc pm an cdv ct) ps n [(q, .none)] := by
  have F : FunD K x qual (defArgs st) (defBody st) (defScope st) [] [(q, V.non)] f (PySem.W.fnOf x qual (defArgs st) (defBody st) (defScope st) .none (.ref D) doc pm an cdv ct) :=
    ⟨⟨oc, od, .none, .ref D, doc, pm, an, cdv, ct, osl, rfl, l, c, .inl ⟨rfl, rfl⟩, .inr ⟨D, rfl, fun p hp => by rw [List.mem_singleton.mp hp]; exact ⟨_, hq, rfl⟩⟩⟩, k⟩
  refine ⟨?_, fun s us ws X l1 l2 => .of_eq (h2 D doc pm an cdv ct us ws l1 l2), fun r1 r2 => r1.append r2⟩
  obtain ⟨ds, r, b⟩ := F.binds0 (ps := ps) n (by simp) (by simpa using hn) fun D doc pm an cdv ct us ks l1 l2 => h D doc pm an cdv ct us ks l1 l2
  exact ⟨[.non], ds, r, .cons .non .nil, b⟩
end L2.Pv

set_option Elab.async false
set_option linter.all false
set_option maxRecDepth 100000
/-! Pv: the exceptions' classes, from what the written part says -/
namespace L2.Pv
open PySem PySem.Spec PyProof.Rows L2
/-- what the class says, asked at once -/
def clsB (K : PySem.W.Frag) (C : Addr) (c : Str) (q : XC) : Bool :=
  xfB K C && decide (PySem.W.findIn K (.ref C) "__class__" = some (some (.builtin "object.__class__"))) && decide (PySem.W.mroIn K C (.type "object") = some true) && (q.fs.all fun f => decide (PySem.W.findIn K (.ref C) f = some none)) &&
    decide (PySem.W.kitOne K (.ref C) (.type "ValueError") = some (isB c q "ValueError"))
def pairB (K : PySem.W.Frag) (tbl : List (Str × XC × Addr)) : Bool :=
  tbl.all fun p => tbl.all fun r => decide (PySem.W.kitOne K (.ref p.2.2) (.ref r.2.2) = some (isB p.1 p.2.1 r.1)) && decide (PySem.W.exmOne K (.ref p.2.2) (.ref r.2.2) = some (isB p.1 p.2.1 r.1))
def iniB (K : PySem.W.Frag) (C fI cda : Addr) (qual : Str) : Bool :=
  decide (PySem.W.findIn K (.ref C) "__setattr__" = some (some (.builtin "object.__setattr__"))) && decide (PySem.W.subIn K (.ref C) (.type "BaseException") = some true) && decide (PySem.W.typeIn K (.ref C) = some (.type "type")) && PySem.W.keepIn K (.ref C) &&
  decide (PySem.W.mroIn K C (.ref C) = some true) && decide (PySem.W.subIn K (.ref C) (.type "ValueError") = some true) && decide (PySem.W.findIn K (.ref C) "__init__" = some (some (.ref fI))) && decide (PySem.W.typeIn K (.ref fI) = some (.type "function")) && PySem.W.codeIn K (.ref cda) qual &&
  decide (PySem.W.ks_superIn K C C "__init__" = some (some (.builtin "ValueError.__init__"))) && decide (PySem.W.nsIn K PySem.cStatics "thirdparty.any" = some none)
structure X0 (P : Program) (w : World) (K : PySem.W.Frag) (mg : Str → Option Value) (base : Heap) (c : Str) (q : XC) (C : Addr) : Prop where
  mc : mg c = some (.ref C)
  b : clsB K C c q = true
  ini : ∀ ms, q.ms = some ms → ∃ fI fd, OexC K C ∧ PySem.W.findIn K (.ref C) "__init__" = some (some (.ref fI)) ∧ PySem.W.typeIn K (.ref fI) = some (.type "function") ∧ q.fs ≠ [] ∧ IniOk P w K mg base (L2N.CX P w) fI fd (("self" : Str) :: q.fs) (spI K C q.fs ms) ∧
    ∀ (s : Shared) (us : List Value), us.length = q.fs.length + 1 → BindsTo s fd ⟨us, []⟩ ((("self" : Str) :: q.fs).zip us)
theorem look_mem' {α : Type} {x : Str} {a : α} : ∀ {l : List (Str × α)}, l.lookup x = some a → (x, a) ∈ l
  | [], h => by simp at h
  | (y, b) :: r, h => by
    rw [List.lookup_cons] at h
    split at h
    · rename_i e
      have e2 : x = y := by simpa using e
      cases h
      rw [e2]
      exact List.mem_cons_self
    · exact List.mem_cons_of_mem _ (look_mem' h)
theorem xt_ok {P : Program} {w : World} {K : PySem.W.Frag} {mg : Str → Option Value} {base : Heap} {tbl : List (Str × XC × Addr)} (h1 : ∀ p ∈ tbl, X0 P w K mg base p.1 p.2.1 p.2.2) (h2 : pairB K tbl = true)
    (hn : PySem.W.specialIn K (.builtin "object.__class__") "__get__" = some (some (.builtin "getset_descriptor.__get__"))) (ht : PySem.W.takesIn K (.builtin "object.__class__") = some true) : XtOk P w K mg base (tbl.map fun p => (p.1, p.2.1)) := by
  have inT : ∀ {c : Str} {q : XC}, (tbl.map fun p => (p.1, p.2.1)).lookup c = some q → ∃ C, (c, q, C) ∈ tbl := fun {c q} h => by
    obtain ⟨p, hp, e⟩ := List.mem_map.mp (look_mem' h)
    obtain ⟨c', q', C⟩ := p
    cases e
    exact ⟨C, hp⟩
  refine ⟨fun _ => hn, fun _ => ht, fun c q h => ?_⟩
  obtain ⟨C, hC⟩ := inT h
  have x0 := h1 _ hC
  have hb := x0.b
  unfold clsB at hb
  simp only [Bool.and_eq_true, decide_eq_true_eq, List.all_eq_true] at hb
  obtain ⟨⟨⟨⟨b1, b2⟩, b3⟩, b4⟩, b5⟩ := hb
  have xf := xfB_ok b1
  refine ⟨C, x0.mc, xf, ?_, b2, b3, b4, fun T q' D hT hD => ?_, b5, x0.ini⟩
  · obtain ⟨cd, hc, _⟩ := PySem.W.any_some xf.hdC
    rw [hc]
    rfl
  · obtain ⟨D', hD'⟩ := inT hT
    have e := (h1 _ hD').mc
    have e : mg T = some (.ref D') := e
    rw [hD] at e
    cases e
    unfold pairB at h2
    have := List.all_eq_true.mp (List.all_eq_true.mp h2 _ hC) _ hD'
    simpa using this
theorem ini_mk {P : Program} {w : World} {K : PySem.W.Frag} {mg : Str → Option Value} {base : Heap} {C fI cc cda : Addr} {qual nm qn : Str} {N : Addr} {bs bm : List Value} {sn : List Str} {sub : List Value} {ab : Bool} {col : Option Bool} {dd : Option Addr} {k0 k1 k2 k3 k5 : Option Value} {st : Stmt} {fs : List Str} {ms ms' : Msg}
    {oc kV doc pm ct : Value} {od an : Option Addr} {osl : Array (Option Value)} {ccl : Value} {cdd : Option Addr} {vs : Array Value} {ccs : Array (Option Value)} {file : Str} {tf : Tok} {cl : Value} {cld : Option Addr} {csl : Array (Option Value)}
    (lC : K.lookup C = some (PySem.excClassObj nm qn C N bs bm true sn sub ab col dd k0 k1 k2 k3 k5 "ValueError.__new__")) (rv : PySem.HandSPX.refsVE bm = true)
    (l : K.lookup fI = some ⟨oc, od, .func (PySem.W.ksFn "__init__" qual (defArgs st) (defBody st) (defScope st) .none kV doc pm an (.ref cda) ct cc), osl⟩) (lc : K.lookup cda = some ⟨ccl, cdd, .fields vs, ccs⟩) (hv : vs[2]? = some (.str file tf)) (hf : ((P.main.file : Str) == file) = true)
    (lcc : K.lookup cc = some ⟨cl, cld, .cell (some (.ref C)), csl⟩) (ib : iniB K C fI cda qual = true) (cb : (fs.all fun f => decide (PySem.W.findIn K (.ref C) f = some none)) = true) (S : ExcS P (defArgs st) (defBody st) (defScope st) fs ms) (hm : mg "super" = none)
    (hbind : ∀ us : List Value, us.length = fs.length + 1 → bindArgs (PySem.W.ksFn "__init__" qual (defArgs st) (defBody st) (defScope st) .none kV doc pm an (.ref cda) ct cc) ⟨us, []⟩ = pure ((("self" : Str) :: fs).zip us)) (hms : ms = ms') :
    ∃ fI fd, OexC K C ∧ PySem.W.findIn K (.ref C) "__init__" = some (some (.ref fI)) ∧ PySem.W.typeIn K (.ref fI) = some (.type "function") ∧ fs ≠ [] ∧ IniOk P w K mg base (L2N.CX P w) fI fd (("self" : Str) :: fs) (spI K C fs ms') ∧
    ∀ (s : Shared) (us : List Value), us.length = fs.length + 1 → BindsTo s fd ⟨us, []⟩ ((("self" : Str) :: fs).zip us) := by
  subst hms
  unfold iniB at ib
  simp only [Bool.and_eq_true, decide_eq_true_eq] at ib
  obtain ⟨⟨⟨⟨⟨⟨⟨⟨⟨⟨i1, i2⟩, i3⟩, i4⟩, i5⟩, i6⟩, i7⟩, i8⟩, i9⟩, i10⟩, i11⟩ := ib
  simp only [decide_eq_true_eq, List.all_eq_true] at cb
  have T : OexC K C := ⟨⟨nm, qn, N, bs, bm, sn, sub, ab, col, dd, k0, k1, k2, k3, k5, lC, rv⟩, i1, i2, i3, i4⟩
  have hcl : (PySem.W.clsIn K C).isSome = true := by
    unfold PySem.W.clsIn
    rw [lC]
    rfl
  have kk : ExcK P K C fI cc cda _ qual (defArgs st) (defBody st) (defScope st) fs := ⟨T, hcl, i5, i6, i7, i8, ⟨oc, od, kV, doc, pm, an, ct, osl, rfl, l⟩, i9, ⟨ccl, cdd, vs, ccs, file, tf, lc, hv, hf⟩, ⟨cl, cld, csl, lcc⟩, i10, i11, cb⟩
  exact ⟨fI, _, T, i7, i8, S.ne, init_fn kk S hm, fun s us hl => .of_eq (hbind us hl)⟩
def nscB' := @NdefX.nscB
/-- how the def is written -/
def excSB (P : Program) (st : Stmt) (fs : List Str) : Bool :=
  NdefX.nscB (("self" : Str) :: (fs ++ [("__class__" : Str)])) (("self" : Str) :: fs) [("__class__" : Str)] (defScope st) && decide ((defScope st).names.lookup ("super" : Str) = some .globalImplicit) && !(P.main.scope.names.lookup ("super" : Str)).isSome && !fs.isEmpty && decide (fs.length ≤ 800) && fs.all okName
theorem excS_mk {P : Program} {st : Stmt} {fs : List Str} {ms : Msg} {ar : Arg} (h : excSB P st fs = true) (hp : ((defArgs st).posonlyargs ++ (defArgs st).args).head? = some ar) (ha : ar.arg = "self") (hb : initOf fs (defBody st) = some ms) : ExcS P (defArgs st) (defBody st) (defScope st) fs ms := by
  unfold excSB at h
  simp only [Bool.and_eq_true, decide_eq_true_eq, Bool.not_eq_true', List.all_eq_true] at h
  obtain ⟨⟨⟨⟨⟨h1, h2⟩, h3⟩, h4⟩, h5⟩, h6⟩ := h
  exact ⟨NdefX.nscope_by h1, h2, ⟨ar, hp, ha⟩, h3, hb, (fun z => by rw [z] at h4; cases h4), h5, h6⟩
theorem fs_of {K : PySem.W.Frag} {C : Addr} {c : Str} {q : XC} (h : clsB K C c q = true) : (q.fs.all fun f => decide (PySem.W.findIn K (.ref C) f = some none)) = true := by
  unfold clsB at h
  simp only [Bool.and_eq_true] at h
  exact h.1.2
/-- the law's promise -/
def spLaw (T : List Ent) (k : Nat) (K : PySem.W.Frag) (w : World) : Sp := fun vs H Q E => ∀ mg, SpD ⟨⟨K, w⟩, mg, none⟩ 1 (run T k "law") vs H Q E
theorem fn_law {P : Program} {w : World} {K : PySem.W.Frag} {mg : Str → Option Value} {base : Heap} {T : List Ent} {k k2 : Nat} {f : Addr} {fd : FuncData} {x : Str} {n : Nat} (h : FnX false P w K mg base k2 f fd [x] n (run T k "law")) (hn : n = 1 := by rfl) : FnOk P w K mg base (L2N.CX P w) k2 f fd [x] (spLaw T k K w) := by
  subst hn
  have F : FnOk P w K mg base (L2N.CX P w) k2 f fd [x] (SpD ⟨⟨K, w⟩, mg, none⟩ 1 (run T k "law")) := h
  exact ⟨fun vs H Q E q => F.len vs H Q E (q mg), fun A outer s H args us vs Q E hr e0 hb hv q => F.run A outer s H args us vs Q E hr e0 hb hv (q mg)⟩
theorem cx_never {P : Program} {w : World} {outer : List PySem.Env} {H : Hp} {s s' : Shared} {e : Value} (h : L2N.CX P w outer H s (fun _ _ _ => False) e s') : False := by
  obtain ⟨_, _, _, _, _, _, _, _, _, _, _, _, z⟩ := h
  exact z
end L2.Pv

set_option Elab.async false
set_option linter.all false
set_option maxRecDepth 100000
namespace L2.Pv
open PySem PySem.Spec PyProof.Rows L2

/-! ### what a meaning satisfies -/
def R.Sat {α : Type} (r : R α) (Q : α → Sto → Prop) : Prop := match r with
  | .ok a S => Q a S
  | .exc _ _ _ => False
  | .bad => False
/-- .. or raises -/
def R.SatE {α : Type} (r : R α) (Q : α → Sto → Prop) (E : Str → Fds → Sto → Prop) : Prop := match r with
  | .ok a S => Q a S
  | .exc c fs S => E c fs S
  | .bad => False
theorem SatE_ok {α : Type} {a : α} {S : Sto} {Q : α → Sto → Prop} {E : Str → Fds → Sto → Prop} : (R.ok a S).SatE Q E = Q a S := rfl
theorem SatE_exc {α : Type} {c : Str} {fs : Fds} {S : Sto} {Q : α → Sto → Prop} {E : Str → Fds → Sto → Prop} : (R.exc c fs S).SatE Q E = E c fs S := rfl
theorem SatE_bind {α β : Type} {r : R α} {f : α → Sto → R β} {Q : β → Sto → Prop} {E : Str → Fds → Sto → Prop} : (r.bind f).SatE Q E = r.SatE (fun a S => (f a S).SatE Q E) E := by cases r <;> rfl
theorem R.SatE.mono {α : Type} {r : R α} {Q Q' : α → Sto → Prop} {E E' : Str → Fds → Sto → Prop} (h : r.SatE Q E) (f : ∀ a S, Q a S → Q' a S) (g : ∀ c fs S, E c fs S → E' c fs S) : r.SatE Q' E' := by
  cases r with
  | ok b S' => exact f _ _ h
  | exc c fs S' => exact g _ _ _ h
  | bad => exact h.elim
theorem R.SatE.bind {α β : Type} {r : R α} {f : α → Sto → R β} {P : α → Sto → Prop} {Q : β → Sto → Prop} {E E' : Str → Fds → Sto → Prop} (h : r.SatE P E') (k : ∀ a S, P a S → (f a S).SatE Q E) (g : ∀ c fs S, E' c fs S → E c fs S) : (r.bind f).SatE Q E := by
  rw [SatE_bind]
  exact h.mono k g
theorem Sat_ok {α : Type} {a : α} {S : Sto} {Q : α → Sto → Prop} : (R.ok a S).Sat Q = Q a S := rfl
theorem Sat_bad {α : Type} {Q : α → Sto → Prop} : (R.bad : R α).Sat Q = False := rfl
theorem R.Sat.of_eq {α : Type} {r : R α} {a : α} {S : Sto} {Q : α → Sto → Prop} (e : r = .ok a S) (h : Q a S) : r.Sat Q := by rw [e]; exact h
theorem R.Sat.eq {α : Type} {r : R α} {a : α} {S : Sto} (h : r.Sat fun b S' => b = a ∧ S' = S) : r = .ok a S := by
  cases r with
  | ok b S' => obtain ⟨rfl, rfl⟩ := h; rfl
  | exc c fs S' => exact h.elim
  | bad => exact h.elim
theorem R.Sat.mono {α : Type} {r : R α} {Q Q' : α → Sto → Prop} (h : r.Sat Q) (f : ∀ a S, Q a S → Q' a S) : r.Sat Q' := by
  cases r with
  | ok b S' => exact f _ _ h
  | exc c fs S' => exact h.elim
  | bad => exact h.elim
theorem R.Sat.satE {α : Type} {r : R α} {Q : α → Sto → Prop} {E : Str → Fds → Sto → Prop} (h : r.Sat Q) : r.SatE Q E := by
  cases r with
  | ok b S' => exact h
  | exc c fs S' => exact h.elim
  | bad => exact h.elim
theorem R.Sat.bindB {α β : Type} {r : R α} {f : α → Sto → R β} {P : α → Sto → Prop} {Q : β → Sto → Prop} (h : r.Sat P) (k : ∀ a S, P a S → (f a S).Sat Q) : (r.bindB f).Sat Q := by
  cases r with
  | ok b S' => exact k _ _ h
  | exc c fs S' => exact h.elim
  | bad => exact h.elim
theorem Sat_bind {α β : Type} {r : R α} {f : α → Sto → R β} {Q : β → Sto → Prop} : (r.bind f).Sat Q = r.Sat fun a S => (f a S).Sat Q := by cases r <;> rfl
theorem R.Sat.bind {α β : Type} {r : R α} {f : α → Sto → R β} {P : α → Sto → Prop} {Q : β → Sto → Prop} (h : r.Sat P) (k : ∀ a S, P a S → (f a S).Sat Q) : (r.bind f).Sat Q := by
  rw [Sat_bind]
  exact h.mono k
/-- evaluation goes to the head alone -/
theorem bind_congr {α β : Type} {r r' : R α} {f : α → Sto → R β} (h : r = r') : r.bind f = r'.bind f := by rw [h]
theorem bind_okE {α β : Type} {a : α} {S : Sto} {f : α → Sto → R β} : (R.ok a S).bind f = f a S := rfl
theorem bind_excE {α β : Type} {c : Str} {fs : Fds} {S : Sto} {f : α → Sto → R β} : (R.exc c fs S : R α).bind f = .exc c fs S := rfl
theorem bindB_okE {α β : Type} {a : α} {S : Sto} {f : α → Sto → R β} : (R.ok a S).bindB f = f a S := rfl
theorem bindB_badE {α β : Type} {f : α → Sto → R β} : (R.bad : R α).bindB f = .bad := rfl
theorem bind_badE {α β : Type} {f : α → Sto → R β} : (R.bad : R α).bind f = .bad := rfl
theorem Sat_congr {α : Type} {r r' : R α} {Q : α → Sto → Prop} (h : r = r') : r.Sat Q = r'.Sat Q := by rw [h]
/-- a choice -/
def pick {α : Type} (b : Bool) (x y : α) : α := if b = true then x else y
theorem pick_congr {α : Type} {b b' : Bool} {x y : α} (h : b = b') : pick b x y = pick b' x y := by rw [h]
theorem pick_t {α : Type} {x y : α} : pick true x y = x := rfl
theorem pick_f {α : Type} {x y : α} : pick false x y = y := rfl
theorem Sat_pick {α : Type} {b : Bool} {x y : R α} {Q : α → Sto → Prop} (h1 : b = true → x.Sat Q) (h2 : b = false → y.Sat Q) : (pick b x y).Sat Q := by
  cases b
  · exact h2 rfl
  · exact h1 rfl
theorem Sat_pickB {α β : Type} {b : Bool} {x y : R α} {f : α → Sto → R β} {Q : β → Sto → Prop} (h1 : b = true → (x.bind f).Sat Q) (h2 : b = false → (y.bind f).Sat Q) : ((pick b x y).bind f).Sat Q := by
  cases b
  · exact h2 rfl
  · exact h1 rfl

def lslOf (S : Sto) (n : Nat) : Option (List PyData) := match S[n]? with
  | some (.lsl ds) => some ds
  | _ => none
/-! ### the equations -/
section
variable {Γ : Env} {S : Sto}
theorem x_var {i : Nat} : sVar i Γ S = match Γ[i]? with | some (some v) => .ok v S | _ => .bad := rfl
theorem x_con {d : PyData} : sCon d Γ S = .ok (.d d) S := rfl
theorem x_bin {g : G2} {a b : SE} : sBin g a b Γ S = (a Γ S).bind fun x S1 => (b Γ S1).bind fun y S2 => g x y S2 := rfl
theorem x_un {g : G1} {a : SE} : sUn g a Γ S = (a Γ S).bind fun x S1 => g x S1 := rfl
theorem x_args0 : sArgs [] Γ S = .ok [] S := rfl
theorem x_args {f : SE} {fs : List SE} : sArgs (f :: fs) Γ S = (f Γ S).bind fun v S1 => (sArgs fs Γ S1).bind fun vs S2 => .ok (v :: vs) S2 := rfl
theorem x_call {g : GL} {fs : List SE} : sCall g fs Γ S = (sArgs fs Γ S).bind g := rfl
theorem x_tst {a : SE} : sTst a Γ S = (a Γ S).bind fun v S1 => match boolOf v with | some b => .ok b S1 | none => .bad := rfl
theorem x_tru {a : SE} : sTru a Γ S = (a Γ S).bind fun v S1 => match gTru v S1 with | some b => .ok b S1 | none => .bad := rfl
theorem x_not {a : ST} : sNot a Γ S = (a Γ S).bind fun b S1 => .ok (!b) S1 := rfl
theorem x_and {a b : ST} : sAnd a b Γ S = (a Γ S).bind fun x S1 => pick x (b Γ S1) (.ok false S1) := rfl
theorem x_or {a b : ST} : sOr a b Γ S = (a Γ S).bind fun x S1 => pick x (.ok true S1) (b Γ S1) := rfl
theorem x_if {c : ST} {a b : SE} : sIf c a b Γ S = (c Γ S).bind fun x S1 => pick x (a Γ S1) (b Γ S1) := rfl
theorem x_andV {a b : SE} : sAndV a b Γ S = (a Γ S).bind fun x S1 => match boolOf x with | some k => pick k (b Γ S1) (.ok (.d (.bool false)) S1) | none => .bad := by
  unfold sAndV
  congr
  funext x S1
  cases h : boolOf x with
  | none => rfl
  | some k => cases k <;> rfl
theorem x_orV {a b : SE} : sOrV a b Γ S = (a Γ S).bind fun x S1 => match boolOf x with | some k => pick k (.ok (.d (.bool true)) S1) (b Γ S1) | none => .bad := by
  unfold sOrV
  congr
  funext x S1
  cases h : boolOf x with
  | none => rfl
  | some k => cases k <;> rfl
theorem x_notV {a : SE} : sNotV a Γ S = (a Γ S).bind fun x S1 => match boolOf x with | some k => .ok (.d (.bool (!k))) S1 | none => .bad := rfl
theorem x_sl {a : SE} {lo hi : Option SE} : sSl a lo hi Γ S = (a Γ S).bind fun x S1 => (sPart lo Γ S1).bind fun l S2 => (sPart hi Γ S2).bind fun h S3 => gSl x l h S3 := rfl
theorem x_part0 : sPart none Γ S = .ok none S := rfl
theorem x_part {f : SE} : sPart (some f) Γ S = (f Γ S).bind fun v S1 => match intOf v with | some i => .ok (some i) S1 | none => .bad := rfl
theorem x_metO {g : Vl → GL} {a : SE} {fs : List SE} : sMetO g a fs Γ S = (a Γ S).bind fun x S1 => match x with
  | .o n => match lstOf S1 n with
    | some _ => (sArgs fs Γ S1).bind fun vs S2 => g x vs S2
    | none => .bad
  | _ => .bad := rfl
theorem x_metS {g : Vl → GL} {a : SE} {fs : List SE} : sMetS g a fs Γ S = (a Γ S).bind fun x S1 => match x with
  | .d (.str _) => (sArgs fs Γ S1).bind fun vs S2 => g x vs S2
  | _ => .bad := rfl
theorem x_metD {g : Vl → GL} {a : SE} {fs : List SE} : sMetD g a fs Γ S = (a Γ S).bind fun x S1 => match dcV S1 x with
  | some _ => (sArgs fs Γ S1).bind fun vs S2 => g x vs S2
  | none => .bad := rfl
theorem x_dct0 : sDct0 Γ S = .ok (.d (.dict [])) S := rfl
theorem x_dct1 {k v : SE} : sDct1 k v Γ S = (k Γ (S ++ [.dct []])).bind fun kv S1 => (v Γ S1).bind fun vv S2 => match kv with
  | .d kd => match vv with
    | .d vd => match dctOf S2 S.length with
      | some [] => pick (keyB kd) (.ok (.o S.length) (S2.set S.length (.dct [(kd, vd)]))) .bad
      | _ => .bad
    | _ => .bad
  | _ => .bad := by
  unfold sDct1 pick
  rfl
theorem x_addNll {a b : List PyData} : gAddN (.d (.list a)) (.d (.list b)) S = pick (decide (a.length + b.length ≤ SZ)) (.ok (.o S.length) (S ++ [.lst (a ++ b)])) .bad := by
  show (if a.length + b.length ≤ SZ then _ else _) = _
  unfold pick
  simp only [decide_eq_true_eq]
theorem x_addNol {n : Nat} {b : List PyData} : gAddN (.o n) (.d (.list b)) S = match lstOf S n with | some a => pick (decide (a.length + b.length ≤ SZ)) (.ok (.o S.length) (S ++ [.lst (a ++ b)])) .bad | none => .bad := by
  show (match lstOf S n with | some a => if a.length + b.length ≤ SZ then _ else _ | none => _) = _
  unfold pick
  simp only [decide_eq_true_eq]
theorem x_addNlo {n : Nat} {a : List PyData} : gAddN (.d (.list a)) (.o n) S = match lstOf S n with | some b => pick (decide (a.length + b.length ≤ SZ)) (.ok (.o S.length) (S ++ [.lst (a ++ b)])) .bad | none => .bad := by
  show (match lstOf S n with | some b => if a.length + b.length ≤ SZ then _ else _ | none => _) = _
  unfold pick
  simp only [decide_eq_true_eq]
theorem x_par3 {i j l : Nat} {a b c : SE} : sPar3 i j l a b c Γ S = (a Γ S).bind fun u S1 => (b Γ S1).bind fun v S2 => (c Γ S2).bind fun w S3 => .ok (.nx (((Γ.set i (some u)).set j (some v)).set l (some w))) S3 := rfl
theorem x_chain {g h : G2} {a b c : SE} : sChain g h a b c Γ S = (a Γ S).bind fun x S1 => (b Γ S1).bind fun y S2 => (g x y S2).bind fun z S3 => match boolOf z with
  | some k => pick k ((c Γ S3).bind fun u S4 => h y u S4) (.ok (.d (.bool false)) S3)
  | none => .bad := by
  unfold sChain
  congr
  funext x S1
  congr
  funext y S2
  congr
  funext z S3
  cases boolOf z with
  | none => rfl
  | some k => cases k <;> rfl
theorem x_lrg {a : SE} : sLrg a Γ S = (a Γ S).bind fun v S1 => match intOf v with
  | some j => pick (decide (-(2 ^ 62) ≤ j ∧ j ≤ 16777216)) (.ok (.d (.list (rngIts 0 j.toNat))) S1) .bad
  | none => .bad := by
  unfold sLrg
  congr
  funext v S1
  cases intOf v with
  | none => rfl
  | some j =>
    unfold pick
    simp only [decide_eq_true_eq]
theorem x_dctN : sDctN Γ S = .ok (.o S.length) (S ++ [.dct []]) := rfl
theorem x_fz {i : Nat} {b : SS} : sFz i b Γ S = match Γ[i]? with
  | some (some (.o n)) => match lstOf S n with
    | some ds => b (Γ.set i (some (.d (.list ds)))) (S.set n .dead)
    | none => match dctOf S n with
      | some kds => b (Γ.set i (some (.d (.dict kds)))) (S.set n .dead)
      | none => match dclOf S n with
        | some kds => b (Γ.set i (some (.d (.dict kds)))) (S.set n .dead)
        | none => match lslOf S n with
          | some ds => b (Γ.set i (some (.d (.list ds)))) (S.set n .dead)
          | none => b Γ S
  | _ => b Γ S := by
  unfold sFz lstOf dctOf dclOf lslOf
  cases Γ[i]? with
  | none => rfl
  | some o =>
    cases o with
    | none => rfl
    | some v =>
      cases v with
      | d d => rfl
      | k ds => rfl
      | x c fs => rfl
      | o n =>
        dsimp only
        cases S[n]? with
        | none => rfl
        | some o => cases o <;> rfl
theorem x_skip : sSkip Γ S = .ok (.nx Γ) S := rfl
theorem x_seq {a b : SS} : sSeq a b Γ S = (a Γ S).bind fun f S1 => sThen f S1 b := rfl
theorem x_thenN {b : SS} : sThen (.nx Γ) S b = b Γ S := rfl
theorem x_thenR {v : Vl} {b : SS} : sThen (.rt v) S b = .ok (.rt v) S := rfl
theorem x_thenB {b : SS} : sThen (.bk Γ) S b = .ok (.bk Γ) S := rfl
theorem x_thenC {b : SS} : sThen (.ct Γ) S b = .ok (.ct Γ) S := rfl
theorem x_drop {e : SE} : sDrop e Γ S = (e Γ S).bind fun _ S1 => .ok (.nx Γ) S1 := rfl
theorem x_ret {e : SE} : sRet e Γ S = (e Γ S).bind fun v S1 => .ok (.rt v) S1 := rfl
theorem x_retN : sRetN Γ S = .ok (.rt (.d .none)) S := rfl
theorem x_ite {c : ST} {a b : SS} : sIte c a b Γ S = (c Γ S).bind fun x S1 => pick x (a Γ S1) (b Γ S1) := rfl
theorem x_set {i : Nat} {e : SE} : sSet i e Γ S = (e Γ S).bind fun v S1 => .ok (.nx (Γ.set i (some v))) S1 := rfl
theorem x_asg {t : Tg} {e : SE} : sAsg t e Γ S = (e Γ S).bind fun v S1 => match v with
  | .d d => match t d Γ with
    | some Γ' => .ok (.nx Γ') S1
    | none => .bad
  | _ => .bad := rfl
theorem x_brk : sBrk Γ S = .ok (.bk Γ) S := rfl
theorem x_cnt : sCnt Γ S = .ok (.ct Γ) S := rfl
theorem x_put {o i e : SE} : sPut o i e Γ S = (e Γ S).bind fun v S1 => (o Γ S1).bind fun x S2 => (i Γ S2).bind fun y S3 => match gPut x y v S3 with
  | some S4 => .ok (.nx Γ) S4
  | none => .bad := rfl
theorem x_for {it : SI} {tg : Tg} {b : SS} : sFor it tg b Γ S = (it Γ S).bind fun src S1 => floop tg b src (fuelOf src) 0 Γ S1 := rfl
theorem x_iter {a : SE} : sIter a Γ S = (a Γ S).bind fun v S1 => match srcOf S1 v with | some s => .ok s S1 | none => .bad := rfl
theorem x_enum {a : SE} : sEnum a Γ S = (a Γ S).bind fun v S1 => match v with
  | .d (.list ds) => .ok (.its (enumIts ds)) S1
  | .d (.tuple ds) => .ok (.its (enumIts ds)) S1
  | _ => .bad := rfl
theorem x_rev {a : SE} : sRev a Γ S = (a Γ S).bind fun v S1 => match v with
  | .d (.list ds) => .ok (.its ds.reverse) S1
  | .d (.tuple ds) => .ok (.its ds.reverse) S1
  | .o n => match lstOf S1 n with
    | some ds => .ok (.rv n ds.length) S1
    | none => .bad
  | _ => .bad := rfl
theorem x_yes : sYes Γ S = .ok true S := rfl
theorem x_rng1 {a : SE} : sRng1 a Γ S = (a Γ S).bind fun v S1 => match intOf v with
  | some j => pick (decide (-(2 ^ 62) ≤ j ∧ j < 2 ^ 62)) (.ok (.its (rngIts 0 j.toNat)) S1) .bad
  | none => .bad := by
  unfold sRng1 pick
  simp only [decide_eq_true_eq]
  all_goals rfl
theorem x_rng2 {a b : SE} : sRng2 a b Γ S = (a Γ S).bind fun v S1 => (b Γ S1).bind fun w S2 => match intOf v with
  | some i => match intOf w with
    | some j => pick (decide ((-(2 ^ 62) ≤ i ∧ i < 2 ^ 62) ∧ (-(2 ^ 62) ≤ j ∧ j < 2 ^ 62))) (.ok (.its (rngIts i (j - i).toNat)) S2) .bad
    | none => .bad
  | none => .bad := by
  unfold sRng2 pick
  simp only [decide_eq_true_eq]
  all_goals rfl
theorem x_compN {vs : List Nat} {it : SI} {tg : Tg} {tst : ST} {elt : SE} : sCompN vs it tg tst elt Γ S = (it Γ S).bind fun src S1 =>
  pick (decide (fuelOf src ≤ SZ)) ((cloop tg tst elt (wipeE Γ vs) src (fuelOf src) 0 S1).bind fun r S2 => .ok (.o S2.length) (S2 ++ [.lst r])) .bad := by
  unfold sCompN pick
  simp only [decide_eq_true_eq]
theorem x_comp2 {vs vs1 : List Nat} {it it1 : SI} {tg tg1 : Tg} {tst tst1 : ST} {elt : SE} : sComp2 vs vs1 it tg tst it1 tg1 tst1 elt Γ S = (it Γ S).bind fun src S1 =>
  (cloop2 tg tst it1 tg1 tst1 elt vs1 (wipeE Γ vs) src (fuelOf src) 0 S1).bind fun r S2 => pick (decide (r.length ≤ SZ)) (.ok (.d (.list r)) S2) .bad := by
  unfold sComp2 pick
  simp only [decide_eq_true_eq]
theorem x_comp {vs : List Nat} {it : SI} {tg : Tg} {tst : ST} {elt : SE} : sComp vs it tg tst elt Γ S = (it Γ S).bind fun src S1 =>
  pick (decide (fuelOf src ≤ SZ)) ((cloop tg tst elt (wipeE Γ vs) src (fuelOf src) 0 S1).bind fun r S2 => .ok (.d (.list r)) S2) .bad := by
  unfold sComp pick
  simp only [decide_eq_true_eq]
end

/-! ### loops over items -/
section
variable {tg : Tg} {b : SS} {tst : ST} {elt : SE}
theorem Sat_floop_at {all : List PyData} {Q : Fl → Sto → Prop} (I : List PyData → Env → Sto → Prop)
    (step : ∀ d rest Γ S, I (d :: rest) Γ S → ∃ Γ2, tg d Γ = some Γ2 ∧ (b Γ2 S).Sat fun fl S' => match fl with
      | .nx Γ' => I rest Γ' S'
      | .ct Γ' => I rest Γ' S'
      | .bk Γ' => Q (.nx Γ') S'
      | .rt v => Q (.rt v) S')
    (done : ∀ Γ S, I [] Γ S → Q (.nx Γ) S) : ∀ (n i : Nat) (Γ : Env) (S : Sto), i ≤ all.length → all.length - i < n → I (all.drop i) Γ S → (floop tg b (.its all) n i Γ S).Sat Q
  | 0, i, Γ, S, h0, h1, h2 => absurd h1 (Nat.not_lt_zero _)
  | n + 1, i, Γ, S, h0, h1, h2 => by
    unfold floop
    by_cases hi : i < all.length
    · rw [List.drop_eq_getElem_cons hi] at h2
      obtain ⟨Γ2, e1, e2⟩ := step _ _ _ _ h2
      simp only [nxt, List.getElem?_eq_getElem hi, e1]
      refine e2.bind fun fl S' h => ?_
      cases fl with
      | nx Γ' => exact Sat_floop_at I step done n (i + 1) Γ' S' hi (by omega) h
      | ct Γ' => exact Sat_floop_at I step done n (i + 1) Γ' S' hi (by omega) h
      | bk Γ' => exact h
      | rt v => exact h
    · have e : i = all.length := by omega
      subst e
      rw [List.drop_length] at h2
      simp only [nxt, List.getElem?_eq_none (Nat.le_refl _)]
      exact done _ _ h2
/-- a for over items: I by what is left -/
theorem Sat_for {all : List PyData} {Q : Fl → Sto → Prop} {Γ : Env} {S : Sto} (I : List PyData → Env → Sto → Prop) (h0 : I all Γ S)
    (step : ∀ d rest Γ S, I (d :: rest) Γ S → ∃ Γ2, tg d Γ = some Γ2 ∧ (b Γ2 S).Sat fun fl S' => match fl with
      | .nx Γ' => I rest Γ' S'
      | .ct Γ' => I rest Γ' S'
      | .bk Γ' => Q (.nx Γ') S'
      | .rt v => Q (.rt v) S')
    (done : ∀ Γ S, I [] Γ S → Q (.nx Γ) S) : (floop tg b (.its all) (fuelOf (.its all)) 0 Γ S).Sat Q :=
  Sat_floop_at I step done _ 0 Γ S (Nat.zero_le _) (Nat.lt_succ_self _) h0
theorem Sat_cloop_at {all : List PyData} {Γ : Env} {Q : List PyData → Sto → Prop} (I : List PyData → List PyData → Sto → Prop)
    (step : ∀ d rest acc S, I (d :: rest) acc S → ∃ Γ2, tg d Γ = some Γ2 ∧ (tst Γ2 S).Sat fun k S1 => (pick k ((elt Γ2 S1).bind fun v S2 => .ok (some v) S2) (.ok none S1)).Sat fun o S2 => match o with
      | some (.d y) => I rest (acc ++ [y]) S2
      | some _ => False
      | none => I rest acc S2)
    (done : ∀ acc S, I [] acc S → Q acc S) : ∀ (n i : Nat) (acc : List PyData) (S : Sto), i ≤ all.length → all.length - i < n → I (all.drop i) acc S → (cloop tg tst elt Γ (.its all) n i S).Sat fun r S' => Q (acc ++ r) S'
  | 0, i, Γ, S, h0, h1, h2 => absurd h1 (Nat.not_lt_zero _)
  | n + 1, i, acc, S, h0, h1, h2 => by
    unfold cloop
    by_cases hi : i < all.length
    · rw [List.drop_eq_getElem_cons hi] at h2
      obtain ⟨Γ2, e1, e2⟩ := step _ _ _ _ h2
      simp only [nxt, List.getElem?_eq_getElem hi, e1]
      refine R.Sat.bindB e2 fun k S1 h => ?_
      cases k with
      | true =>
        rw [if_pos rfl]
        rw [pick_t, Sat_bind] at h
        refine R.Sat.bindB h fun v S2 h => ?_
        cases v with
        | d y =>
          refine R.Sat.bindB (Sat_cloop_at I step done n (i + 1) (acc ++ [y]) S2 hi (by omega) h) fun r S3 h => ?_
          show Q (acc ++ y :: r) S3
          rw [List.append_assoc] at h
          exact h
        | o m => exact h.elim
        | k ds => exact h.elim
        | x c fs => exact h.elim
      | false =>
        rw [if_neg Bool.false_ne_true]
        exact Sat_cloop_at I step done n (i + 1) acc S1 hi (by omega) h
    · have e : i = all.length := by omega
      subst e
      rw [List.drop_length] at h2
      simp only [nxt, List.getElem?_eq_none (Nat.le_refl _)]
      show Q (acc ++ []) S
      rw [List.append_nil]
      exact done _ _ h2
/-- a comprehension over items: I by what is left and what is made -/
theorem Sat_comp {all : List PyData} {Γ : Env} {S : Sto} {Q : List PyData → Sto → Prop} (I : List PyData → List PyData → Sto → Prop) (h0 : I all [] S)
    (step : ∀ d rest acc S, I (d :: rest) acc S → ∃ Γ2, tg d Γ = some Γ2 ∧ (tst Γ2 S).Sat fun k S1 => (pick k ((elt Γ2 S1).bind fun v S2 => .ok (some v) S2) (.ok none S1)).Sat fun o S2 => match o with
      | some (.d y) => I rest (acc ++ [y]) S2
      | some _ => False
      | none => I rest acc S2)
    (done : ∀ acc S, I [] acc S → Q acc S) : (cloop tg tst elt Γ (.its all) (fuelOf (.its all)) 0 S).Sat Q :=
  (Sat_cloop_at I step done _ 0 [] S (Nat.zero_le _) (Nat.lt_succ_self _) h0).mono fun a S h => by rwa [List.nil_append] at h
end

/-! ### defs -/
theorem Sat_fn {body : SS} {np nN : Nat} {keep : Bool} {vs : List Vl} {S : Sto} {Q : Vl → Sto → Prop} (hl : vs.length = np) (h : (body (vs.map some ++ List.replicate (nN - np) none) S).Sat fun fl S' => match fl with
      | .rt v => (fin keep S.length v S').Sat Q
      | .nx _ => (fin keep S.length (.d .none) S').Sat Q
      | _ => False) : (fnSem body np nN keep vs S).Sat Q := by
  unfold fnSem
  rw [if_pos hl]
  revert h
  generalize body (vs.map some ++ List.replicate (nN - np) none) S = r
  intro h
  cases r with
  | bad => exact h.elim
  | exc c fs S' => exact h.elim
  | ok fl S' =>
    cases fl with
    | rt v => exact h
    | nx Γ => exact h
    | bk Γ => exact h.elim
    | ct Γ => exact h.elim
theorem SatE_fn {body : SS} {np nN : Nat} {keep : Bool} {vs : List Vl} {S : Sto} {Q : Vl → Sto → Prop} {E : Str → Fds → Sto → Prop} (hl : vs.length = np) (h : (body (vs.map some ++ List.replicate (nN - np) none) S).SatE (fun fl S' => match fl with
      | .rt v => (fin keep S.length v S').Sat Q
      | .nx _ => (fin keep S.length (.d .none) S').Sat Q
      | _ => False) fun c fs S' => E c fs (S'.take S.length)) : (fnSem body np nN keep vs S).SatE Q E := by
  unfold fnSem
  rw [if_pos hl]
  revert h
  generalize body (vs.map some ++ List.replicate (nN - np) none) S = r
  intro h
  cases r with
  | bad => exact h.elim
  | exc c fs S' => exact h
  | ok fl S' =>
    cases fl with
    | rt v => exact R.Sat.satE h
    | nx Γ => exact R.Sat.satE h
    | bk Γ => exact h.elim
    | ct Γ => exact h.elim
end L2.Pv

set_option Elab.async false
set_option linter.all false
set_option maxRecDepth 100000
namespace L2.Pv
open PySem PySem.Spec PyProof.Rows L2

theorem bind_assoc {α β γ : Type} {r : R α} {f : α → Sto → R β} {g : β → Sto → R γ} : (r.bind f).bind g = r.bind fun a S => (f a S).bind g := by cases r <;> rfl
/-! ### data -/
section
variable {S : Sto}
theorem v_bool {b : Bool} : boolOf (.d (.bool b)) = some b := rfl
theorem v_int {i : Int} : intOf (.d (.int i)) = some i := rfl
theorem v_dat2 {h : PyData → PyData → Option PyData} {a b : PyData} : dat2 h (.d a) (.d b) S = lft S (h a b) := rfl
theorem v_cmp2 {h : PyData → PyData → Option PyData} {a b : PyData} : cmp2 h (.d a) (.d b) S = lft S (h a b) := rfl
theorem v_cmpO {h : PyData → PyData → Option PyData} {n : Nat} {b : PyData} : cmp2 h (.o n) (.d b) S = match lstOf S n with | some ds => lft S (h (.list ds) b) | none => match dctOf S n with | some kds => lft S (h (.dict kds) b) | none => .bad := by
  cases e : lstOf S n with
  | some ds => simp only [cmp2, rdV, e]
  | none => cases e2 : dctOf S n <;> simp only [cmp2, rdV, e, e2, Option.map]
theorem v_cmpP {h : PyData → PyData → Option PyData} {n : Nat} {b : PyData} : cmp2 h (.d b) (.o n) S = match lstOf S n with | some ds => lft S (h b (.list ds)) | none => match dctOf S n with | some kds => lft S (h b (.dict kds)) | none => .bad := by
  cases e : lstOf S n with
  | some ds => simp only [cmp2, rdV, e]
  | none => cases e2 : dctOf S n <;> simp only [cmp2, rdV, e, e2, Option.map]
theorem v_dat1 {h : PyData → Option PyData} {a : PyData} : dat1 h (.d a) S = lft S (h a) := rfl
theorem v_lft {c : PyData} : lft S (some c) = .ok (.d c) S := rfl
theorem v_arg1 {g : G1} {a : Vl} : arg1 g [a] S = g a S := rfl
theorem v_arg2 {g : G2} {a b : Vl} : arg2 g [a, b] S = g a b S := rfl
theorem v_gAdd {a b : PyData} : gAdd (.d a) (.d b) S = lft S (dAdd a b) := rfl
theorem v_gAddO {n : Nat} {b : List PyData} : gAdd (.o n) (.d (.list b)) S = addL S (lstOf S n) (some b) := rfl
theorem v_gAddP {n : Nat} {b : List PyData} : gAdd (.d (.list b)) (.o n) S = addL S (some b) (lstOf S n) := rfl
theorem v_gAddQ {n m : Nat} : gAdd (.o m) (.o n) S = addL S (lstOf S m) (lstOf S n) := rfl
theorem v_addLL {a b : List PyData} : addL S (some a) (some b) = pick (decide (a.length + b.length ≤ SZ)) (.ok (.d (.list (a ++ b))) S) .bad := by simp only [addL, pick, decide_eq_true_eq]
theorem v_listN {ds : List PyData} : gListN (.d (.list ds)) S = .ok (.o S.length) (S ++ [.lst ds]) := rfl
theorem v_listNT {ds : List PyData} : gListN (.d (.tuple ds)) S = .ok (.o S.length) (S ++ [.lst ds]) := rfl
theorem v_listNO {n : Nat} : gListN (.o n) S = match lstOf S n with | some ds => .ok (.o S.length) (S ++ [.lst ds]) | none => .bad := by
  show (match (lstOf S n).map Sq.l with | some (.l ds) => _ | some (.t ds) => _ | none => _) = _
  cases lstOf S n <;> rfl
theorem v_split {a b : Str} : gSplit (.d (.str a)) [.d (.str b)] S = pick (decide ((b.length == 0) = false ∧ a.length + 2 ≤ SZ)) (.ok (.d (.list ((Txt.split a b).map .str))) S) .bad := by
  show (if _ then _ else _) = _
  simp only [pick, decide_eq_true_eq]
theorem v_addI {i j : Int} : dAdd (.int i) (.int j) = some (.int (i + j)) := rfl
theorem v_addS {a b : Str} : dAdd (.str a) (.str b) = pick (decide (a.length + b.length ≤ SZ)) (some (.str (a ++ b))) none := by simp only [dAdd, pick, decide_eq_true_eq]
theorem v_addT {a b : List PyData} : dAdd (.tuple a) (.tuple b) = pick (decide (a.length + b.length ≤ SZ)) (some (.tuple (a ++ b))) none := by simp only [dAdd, pick, decide_eq_true_eq]
theorem v_addL {a b : List PyData} : dAdd (.list a) (.list b) = pick (decide (a.length + b.length ≤ SZ)) (some (.list (a ++ b))) none := by simp only [dAdd, pick, decide_eq_true_eq]
theorem v_subI {i j : Int} : dSub (.int i) (.int j) = some (.int (i - j)) := rfl
theorem w_mulI {i j : Int} : dMul (.int i) (.int j) = pick (decide ((-(2 ^ 64) < i ∧ i < 2 ^ 64) ∨ (-(2 ^ 64) < j ∧ j < 2 ^ 64))) (some (.int (i * j))) none := by simp only [dMul, pick, decide_eq_true_eq]
theorem v_mulS {x : Str} {n : Int} (h : x.length * n.toNat ≤ SZ) (h1 : -(2 ^ 63) ≤ n) (h2 : n < 2 ^ 63) : dMul (.str x) (.int n) = some (.str (strRep x n)) := by simp only [dMul, if_pos (show x.length * n.toNat ≤ SZ ∧ -(2 ^ 63) ≤ n ∧ n < 2 ^ 63 from ⟨h, h1, h2⟩)]
theorem v_mulLs {x : List PyData} {n : Int} (h : x.length * n.toNat ≤ SZ) (h1 : -(2 ^ 63) ≤ n) (h2 : n < 2 ^ 63) : dMul (.list x) (.int n) = some (.list (List.replicate n.toNat x).flatten) := by simp only [dMul, if_pos (show x.length * n.toNat ≤ SZ ∧ -(2 ^ 63) ≤ n ∧ n < 2 ^ 63 from ⟨h, h1, h2⟩)]
theorem w_fdiv {i j : Int} : dFdiv (.int i) (.int j) = pick (decide (0 < j ∧ j < 18446744073709551616)) (some (.int (i / j))) none := by simp only [dFdiv, pick, decide_eq_true_eq]
theorem w_mod {i j : Int} : dMod (.int i) (.int j) = pick (decide (0 < j)) (some (.int (i % j))) none := by simp only [dMod, pick, decide_eq_true_eq]
theorem v_modP {i j : Int} (h : 0 < j) : dMod (.int i) (.int j) = some (.int (i % j)) := by rw [w_mod, decide_eq_true h]; rfl
theorem v_fdivP {i j : Int} (h : 0 < j) (h2 : j < 18446744073709551616) : dFdiv (.int i) (.int j) = some (.int (i / j)) := by rw [w_fdiv, decide_eq_true ⟨h, h2⟩]; rfl
theorem v_mulR {i j : Int} (h : -(2 ^ 64) < j) (h2 : j < 2 ^ 64) : dMul (.int i) (.int j) = some (.int (i * j)) := by rw [w_mulI, decide_eq_true (.inr ⟨h, h2⟩)]; rfl
theorem v_mulL {i j : Int} (h : -(2 ^ 64) < i) (h2 : i < 2 ^ 64) : dMul (.int i) (.int j) = some (.int (i * j)) := by rw [w_mulI, decide_eq_true (.inl ⟨h, h2⟩)]; rfl
theorem v_neg {i : Int} : dNeg (.int i) = some (.int (-i)) := rfl
theorem v_intI {i : Int} : dInt (.int i) = some (.int i) := rfl
theorem v_intB {b : Bool} : dInt (.bool b) = some (.int (if b then 1 else 0)) := rfl
theorem v_abs {i : Int} : dAbs (.int i) = some (.int (if i < 0 then -i else i)) := rfl
theorem v_max {i j : Int} : dMax (.int i) (.int j) = some (.int (if j > i then j else i)) := rfl
theorem v_min {i j : Int} : dMin (.int i) (.int j) = some (.int (if j < i then j else i)) := rfl
theorem v_lenL {ds : List PyData} : gLen (.d (.list ds)) S = .ok (.d (.int ds.length)) S := rfl
theorem v_lenT {ds : List PyData} : gLen (.d (.tuple ds)) S = .ok (.d (.int ds.length)) S := rfl
theorem v_lenK {ds : List PyData} : gLen (.k ds) S = .ok (.d (.int ds.length)) S := rfl
theorem v_lenO {n : Nat} : gLen (.o n) S = match lstOf S n with | some ds => .ok (.d (.int ds.length)) S | none => match dctOf S n with | some kds => pick (decide (kds.length ≤ SZ)) (.ok (.d (.int kds.length)) S) .bad | none => .bad := by
  show (match (lstOf S n).map Sq.l with | some (.l ds) => _ | some (.t ds) => _ | none => _) = _
  cases lstOf S n with
  | some ds => rfl
  | none =>
    show (match dctOf S n with | some kds => if kds.length ≤ SZ then _ else _ | none => _) = _
    cases dctOf S n with
    | none => rfl
    | some kds => simp only [pick, decide_eq_true_eq]
theorem v_lenD {kds : Kvs} : gLen (.d (.dict kds)) S = pick (decide (kds.length ≤ SZ)) (.ok (.d (.int kds.length)) S) .bad := by
  show (if kds.length ≤ SZ then _ else _) = _
  simp only [pick, decide_eq_true_eq]
theorem v_listD {kds : Kvs} : gList (.d (.dict kds)) S = .ok (.d (.list (kds.map (·.1)))) S := rfl
theorem v_ixD {kds : Kvs} {k : PyData} : gIx (.d (.dict kds)) (.d k) S = pick (kindB kds k) (lft S (dLook kds k)) .bad := rfl
theorem v_dcD {kds : Kvs} : dcV S (.d (.dict kds)) = some kds := rfl
theorem v_dcO {n : Nat} : dcV S (.o n) = dctOf S n := rfl
theorem v_inD {kds : Kvs} {k : PyData} : dIn k (.dict kds) = pick (kindB kds k) (some (.bool (dLook kds k).isSome)) none := by
  have e : dInB k (.dict kds) = if kindB kds k = true then some (dLook kds k).isSome else none := by cases k <;> rfl
  unfold dIn
  rw [e]
  cases kindB kds k <;> rfl
theorem v_ninD {kds : Kvs} {k : PyData} : dNotIn k (.dict kds) = pick (kindB kds k) (some (.bool (!(dLook kds k).isSome))) none := by
  have e : dInB k (.dict kds) = if kindB kds k = true then some (dLook kds k).isSome else none := by cases k <;> rfl
  unfold dNotIn
  rw [e]
  cases kindB kds k <;> rfl
theorem v_getD {kds : Kvs} {k : PyData} : gGet (.d (.dict kds)) [.d k] S = pick (kindB kds k) (.ok (.d ((dLook kds k).getD .none)) S) .bad := rfl
theorem v_getD2 {kds : Kvs} {k : PyData} {v : Vl} : gGet (.d (.dict kds)) [.d k, v] S = pick (kindB kds k) (match dLook kds k with | some y => .ok (.d y) S | none => .ok v S) .bad := rfl
theorem v_isND {neg : Bool} {kds : Kvs} : gIsN neg (.d (.dict kds)) (.d .none) S = .ok (.d (.bool neg)) S := rfl
theorem v_sort {ds : List PyData} : gSort (.d (.list ds)) S = pick (sortB ds) (.ok (.d (.list (ds.mergeSort leD))) S) (pick (rowsB ds) (.ok (.d (.list (ds.mergeSort fun a b => leD (fstD a) (fstD b)))) S) .bad) := rfl
theorem v_sum {ds : List PyData} : gSum (.d (.list ds)) S = match intsOf ds with | some bs => .ok (.d (.int bs.sum)) S | none => .bad := rfl
theorem v_max1 {ds : List PyData} : gMax1 (.d (.list ds)) S = match intsOf ds with | some (n :: ns) => .ok (.d (.int (ns.foldl max n))) S | _ => .bad := rfl
theorem v_min1 {ds : List PyData} : gMin1 (.d (.list ds)) S = match intsOf ds with | some (n :: ns) => .ok (.d (.int (ns.foldl min n))) S | _ => .bad := rfl
theorem v_lenS {z : Str} : gLen (.d (.str z)) S = pick (decide (z.length ≤ SZ)) (.ok (.d (.int z.length)) S) .bad := by
  show (if z.length ≤ SZ then _ else _) = _
  simp only [pick, decide_eq_true_eq]
theorem v_ixL {ds : List PyData} {i : Int} : gIx (.d (.list ds)) (.d (.int i)) S = lft S (atI ds i) := rfl
theorem v_ixT {ds : List PyData} {i : Int} : gIx (.d (.tuple ds)) (.d (.int i)) S = lft S (atI ds i) := rfl
theorem v_ixK {ds : List PyData} {i : Int} : gIx (.k ds) (.d (.int i)) S = lft S (atI ds i) := rfl
theorem v_ixO {n : Nat} {i : Int} : gIx (.o n) (.d (.int i)) S = match lstOf S n with | some ds => lft S (atI ds i) | none => match dctOf S n with | some kds => pick (kindB kds (.int i)) (lft S (dLook kds (.int i))) .bad | none => .bad := by
  show (match (lstOf S n).map Sq.l with | some (.l ds) => _ | some (.t ds) => _ | none => _) = _
  cases lstOf S n with
  | some ds => rfl
  | none =>
    show (match dctOf S n with | some kds => _ | none => _) = _
    cases dctOf S n <;> rfl
theorem v_ixOT {n : Nat} {ks : List PyData} : gIx (.o n) (.d (.tuple ks)) S = match dctOf S n with | some kds => pick (kindB kds (.tuple ks)) (lft S (dLook kds (.tuple ks))) .bad | none => .bad := by
  show (match (lstOf S n).map Sq.l with | some (.l ds) => _ | some (.t ds) => _ | none => _) = _
  cases e : lstOf S n with
  | some ds => rw [dct_no e]; rfl
  | none =>
    show (match dctOf S n with | some kds => _ | none => _) = _
    cases dctOf S n <;> rfl
theorem v_ixOS {n : Nat} {x : Str} : gIx (.o n) (.d (.str x)) S = match dctOf S n with | some kds => pick (kindB kds (.str x)) (lft S (dLook kds (.str x))) .bad | none => .bad := by
  show (match (lstOf S n).map Sq.l with | some (.l ds) => _ | some (.t ds) => _ | none => _) = _
  cases e : lstOf S n with
  | some ds => rw [dct_no e]; rfl
  | none =>
    show (match dctOf S n with | some kds => _ | none => _) = _
    cases dctOf S n <;> rfl
theorem v_ixS {z : Str} {i : Int} : gIx (.d (.str z)) (.d (.int i)) S = pick (decide (z.length ≤ SZ)) (lft S ((atI z.cps.toList i).map fun c => .str ⟨#[c]⟩)) .bad := by
  show (if z.length ≤ SZ then _ else _) = _
  simp only [pick, decide_eq_true_eq]
theorem v_slL {ds : List PyData} {lo hi : Option Int} : gSl (.d (.list ds)) lo hi S = .ok (.d (.list (cutD ds lo hi))) S := rfl
theorem v_slT {ds : List PyData} {lo hi : Option Int} : gSl (.d (.tuple ds)) lo hi S = .ok (.d (.tuple (cutD ds lo hi))) S := rfl
theorem v_slK {ds : List PyData} {lo hi : Option Int} : gSl (.k ds) lo hi S = .ok (.d (.list (cutD ds lo hi))) S := rfl
theorem v_slS {z : Str} {lo hi : Option Int} : gSl (.d (.str z)) lo hi S = pick (decide (z.length ≤ SZ)) (.ok (.d (.str ⟨(cutD z.cps.toList lo hi).toArray⟩)) S) .bad := by
  show (if z.length ≤ SZ then _ else _) = _
  simp only [pick, decide_eq_true_eq]
theorem v_listL {ds : List PyData} : gList (.d (.list ds)) S = .ok (.d (.list ds)) S := rfl
theorem v_listT {ds : List PyData} : gList (.d (.tuple ds)) S = .ok (.d (.list ds)) S := rfl
theorem v_listK {ds : List PyData} : gList (.k ds) S = .ok (.d (.list ds)) S := rfl
theorem v_back {ds : List PyData} : gBack (.d (.tuple ds)) S = .ok (.d (.tuple ds.reverse)) S := rfl
theorem v_tupL {ds : List PyData} : gTuple (.d (.list ds)) S = .ok (.d (.tuple ds)) S := rfl
theorem v_tupT {ds : List PyData} : gTuple (.d (.tuple ds)) S = .ok (.d (.tuple ds)) S := rfl
theorem v_tupK {ds : List PyData} : gTuple (.k ds) S = .ok (.d (.tuple ds)) S := rfl
theorem v_tupO {n : Nat} : gTuple (.o n) S = match lstOf S n with | some ds => .ok (.d (.tuple ds)) S | none => .bad := by
  show (match (lstOf S n).map Sq.l with | some (.l ds) => _ | some (.t ds) => _ | none => _) = _
  cases lstOf S n <;> rfl
theorem v_listO {n : Nat} : gList (.o n) S = match lstOf S n with | some ds => .ok (.d (.list ds)) S | none => match dctOf S n with | some kds => .ok (.d (.list (kds.map (·.1)))) S | none => .bad := by
  show (match (lstOf S n).map Sq.l with | some (.l ds) => _ | some (.t ds) => _ | none => _) = _
  cases lstOf S n <;> rfl
theorem v_slO {n : Nat} {lo hi : Option Int} : gSl (.o n) lo hi S = match lstOf S n with | some ds => .ok (.d (.list (cutD ds lo hi))) S | none => .bad := by
  show (match (lstOf S n).map Sq.l with | some (.l ds) => _ | some (.t ds) => _ | none => _) = _
  cases lstOf S n <;> rfl
theorem v_allL {ds : List PyData} : gAll (.d (.list ds)) S = match boolsOf ds with | some bs => .ok (.d (.bool (bs.all id))) S | none => .bad := rfl
theorem v_anyL {ds : List PyData} : gAny (.d (.list ds)) S = match boolsOf ds with | some bs => .ok (.d (.bool (bs.any id))) S | none => .bad := rfl
theorem v_isiN {T : String} : gIsi T (.d .none) S = .ok (.d (.bool (isiB "NoneType" T))) S := rfl
theorem v_isiB {T : String} {b : Bool} : gIsi T (.d (.bool b)) S = .ok (.d (.bool (isiB "bool" T))) S := rfl
theorem v_isiI {T : String} {i : Int} : gIsi T (.d (.int i)) S = .ok (.d (.bool (isiB "int" T))) S := rfl
theorem v_isiS {T : String} {x : Str} : gIsi T (.d (.str x)) S = .ok (.d (.bool (isiB "str" T))) S := rfl
theorem v_isiL {T : String} {ds : List PyData} : gIsi T (.d (.list ds)) S = .ok (.d (.bool (isiB "list" T))) S := rfl
theorem v_isiT {T : String} {ds : List PyData} : gIsi T (.d (.tuple ds)) S = .ok (.d (.bool (isiB "tuple" T))) S := rfl
theorem isi_tab : isiB "NoneType" "tuple" = false ∧ isiB "NoneType" "str" = false ∧ isiB "NoneType" "int" = false ∧ isiB "NoneType" "bool" = false ∧ isiB "NoneType" "list" = false
  ∧ isiB "bool" "tuple" = false ∧ isiB "bool" "str" = false ∧ isiB "bool" "int" = true ∧ isiB "bool" "bool" = true ∧ isiB "bool" "list" = false
  ∧ isiB "int" "tuple" = false ∧ isiB "int" "str" = false ∧ isiB "int" "int" = true ∧ isiB "int" "bool" = false ∧ isiB "int" "list" = false
  ∧ isiB "str" "tuple" = false ∧ isiB "str" "str" = true ∧ isiB "str" "int" = false ∧ isiB "str" "bool" = false ∧ isiB "str" "list" = false
  ∧ isiB "list" "tuple" = false ∧ isiB "list" "str" = false ∧ isiB "list" "int" = false ∧ isiB "list" "bool" = false ∧ isiB "list" "list" = true
  ∧ isiB "tuple" "tuple" = true ∧ isiB "tuple" "str" = false ∧ isiB "tuple" "int" = false ∧ isiB "tuple" "bool" = false ∧ isiB "tuple" "list" = false := by decide +kernel
theorem v_truB {b : Bool} : gTru (.d (.bool b)) S = some b := rfl
theorem v_isTn {b : Bool} : gIsN true (.d (.bool b)) (.d (.bool true)) S = .ok (.d (.bool (!b))) S := by cases b <;> rfl
theorem v_isTp {b : Bool} : gIsN false (.d (.bool b)) (.d (.bool true)) S = .ok (.d (.bool b)) S := by cases b <;> rfl
theorem v_isN0 {neg : Bool} : gIsN neg (.d .none) (.d .none) S = .ok (.d (.bool (!neg))) S := rfl
theorem v_isNB {neg b : Bool} : gIsN neg (.d (.bool b)) (.d .none) S = .ok (.d (.bool neg)) S := rfl
theorem v_isNI {neg : Bool} {i : Int} : gIsN neg (.d (.int i)) (.d .none) S = .ok (.d (.bool neg)) S := rfl
theorem v_isNS {neg : Bool} {x : Str} : gIsN neg (.d (.str x)) (.d .none) S = .ok (.d (.bool neg)) S := rfl
theorem v_isNL {neg : Bool} {ds : List PyData} : gIsN neg (.d (.list ds)) (.d .none) S = .ok (.d (.bool neg)) S := rfl
theorem v_isNT {neg : Bool} {ds : List PyData} : gIsN neg (.d (.tuple ds)) (.d .none) S = .ok (.d (.bool neg)) S := rfl
theorem v_pow18 : dPow (.int 10) (.int 18) = some (.int 1000000000000000000) := rfl
theorem v_ltI {i j : Int} : dLt (.int i) (.int j) = some (.bool (decide (i < j))) := rfl
theorem v_gtI {i j : Int} : dGt (.int i) (.int j) = some (.bool (decide (j < i))) := rfl
theorem v_leI {i j : Int} : dLe (.int i) (.int j) = some (.bool (decide (i ≤ j))) := by
  show some (PyData.bool (!decide (j < i))) = _
  by_cases h : j < i
  · rw [decide_eq_true h, decide_eq_false (by omega)]; rfl
  · rw [decide_eq_false h, decide_eq_true (by omega)]; rfl
theorem v_geI {i j : Int} : dGe (.int i) (.int j) = some (.bool (decide (j ≤ i))) := by
  show some (PyData.bool (!decide (i < j))) = _
  by_cases h : i < j
  · rw [decide_eq_true h, decide_eq_false (by omega)]; rfl
  · rw [decide_eq_false h, decide_eq_true (by omega)]; rfl
theorem v_ltS {a b : Str} : dLt (.str a) (.str b) = some (.bool (decide (a.cps.toList < b.cps.toList))) := rfl
theorem v_gtS {a b : Str} : dGt (.str a) (.str b) = some (.bool (decide (b.cps.toList < a.cps.toList))) := rfl
theorem v_eqI {i j : Int} : dEq (.int i) (.int j) = some (.bool (decide (i = j))) := rfl
theorem v_eqS {a b : Str} : dEq (.str a) (.str b) = some (.bool (decide (a = b))) := rfl
theorem v_eqB {a b : Bool} : dEq (.bool a) (.bool b) = some (.bool (decide (a = b))) := rfl
theorem v_neI {i j : Int} : dNe (.int i) (.int j) = some (.bool (!decide (i = j))) := rfl
theorem v_neS {a b : Str} : dNe (.str a) (.str b) = some (.bool (!decide (a = b))) := rfl
theorem v_neB {a b : Bool} : dNe (.bool a) (.bool b) = some (.bool (!decide (a = b))) := rfl
theorem v_inC {c : Nat} {z : Str} : dIn (.str ⟨#[c]⟩) (.str z) = some (.bool (decide (c ∈ z.cps.toList))) := rfl
theorem v_ninC {c : Nat} {z : Str} : dNotIn (.str ⟨#[c]⟩) (.str z) = some (.bool (!decide (c ∈ z.cps.toList))) := rfl
end
theorem mapO_some {α β : Type} {f : α → β} {a : α} : Option.map f (some a) = some (f a) := rfl
theorem mapO_none {α β : Type} {f : α → β} : Option.map f (none : Option α) = none := rfl
theorem dec_true {p : Prop} [Decidable p] (h : p) : decide p = true := decide_eq_true h
theorem dec_false {p : Prop} [Decidable p] (h : ¬p) : decide p = false := decide_eq_false h
end L2.Pv

set_option Elab.async false
set_option linter.all false
set_option maxRecDepth 100000
namespace L2.Pv
open PySem PySem.Spec PyProof.Rows L2
/-! ### one step after the other -/
theorem l_get0 {α : Type} {a : α} {l : List α} : (a :: l)[0]? = some a := rfl
theorem l_getS {α : Type} {a : α} {l : List α} {n : Nat} : (a :: l)[n + 1]? = l[n]? := rfl
theorem l_set0 {α : Type} {a b : α} {l : List α} : (a :: l).set 0 b = b :: l := rfl
theorem l_setS {α : Type} {a b : α} {l : List α} {n : Nat} : (a :: l).set (n + 1) b = a :: l.set n b := rfl
theorem l_wipe0 {Γ : Env} : wipeE Γ [] = Γ := rfl
theorem l_wipe {Γ : Env} {v : Nat} {vs : List Nat} : wipeE Γ (v :: vs) = (wipeE Γ vs).set v none := rfl
theorem l_datas0 : datas [] = some [] := rfl
theorem l_datas {d : PyData} {r : List Vl} : datas (.d d :: r) = (datas r).map (d :: ·) := rfl
theorem l_tup {S : Sto} {vs : List Vl} : gTup vs S = match datas vs with | some ds => pick (decide (ds.length ≤ SZ)) (.ok (.d (.tuple ds)) S) .bad | none => .bad := by
  unfold gTup pick
  simp only [decide_eq_true_eq]
  all_goals rfl
theorem l_lst {S : Sto} {vs : List Vl} : gLst vs S = match datas vs with | some ds => pick (decide (ds.length ≤ SZ)) (.ok (.d (.list ds)) S) .bad | none => .bad := by
  unfold gLst pick
  simp only [decide_eq_true_eq]
  all_goals rfl
theorem l_new {S : Sto} {vs : List Vl} : gNew vs S = match datas vs with | some ds => pick (decide (ds.length ≤ SZ)) (.ok (.o S.length) (S ++ [.lst ds])) .bad | none => .bad := by
  unfold gNew pick
  simp only [decide_eq_true_eq]
  all_goals rfl
theorem l_put {n : Nat} {k d : PyData} {S : Sto} : gPut (.o n) (.d k) (.d d) S = match lstOf S n with | some ds => gPutL n ds k d S | none => match dctOf S n with
    | some kds => pick (kindB kds k && decide (kds.length < SZ)) (some (S.set n (.dct (dPut kds k d)))) none
    | none => none := by
  show (match lstOf S n with | some ds => _ | none => match dctOf S n with | some kds => if kindB kds k = true ∧ kds.length < SZ then _ else _ | none => _) = _
  cases lstOf S n with
  | some ds => rfl
  | none =>
    cases dctOf S n with
    | none => rfl
    | some kds =>
      show (if kindB kds k = true ∧ kds.length < SZ then _ else _) = _
      simp only [pick, Bool.and_eq_true, decide_eq_true_eq]
theorem l_putL {n : Nat} {ds : List PyData} {k : Int} {d : PyData} {S : Sto} : gPutL n ds (.int k) d S = (ixN ds.length k).map fun j => S.set n (.lst (ds.set j d)) := rfl
theorem l_srcD {S : Sto} {kds : Kvs} : srcOf S (.d (.dict kds)) = some (.its (kds.map (·.1))) := rfl
theorem l_srcL {S : Sto} {ds : List PyData} : srcOf S (.d (.list ds)) = some (.its ds) := rfl
theorem l_srcT {S : Sto} {ds : List PyData} : srcOf S (.d (.tuple ds)) = some (.its ds) := rfl
theorem l_srcS {S : Sto} {z : Str} : srcOf S (.d (.str z)) = some (.its (strIts z)) := rfl
theorem l_srcK {S : Sto} {ds : List PyData} : srcOf S (.k ds) = some (.its ds) := rfl
theorem l_tnm {i : Nat} {d : PyData} {Γ : Env} : tNm i d Γ = some (Γ.set i (some (.d d))) := rfl
theorem l_at0 {α : Type} {a0 : α} {l : List α} : atI (a0 :: l) 0 = some a0 := by
  unfold atI ixN
  rw [if_pos (by omega), if_pos (by simp only [List.length_cons]; omega)]
  rfl
theorem l_ixn0 {n : Nat} : ixN (n + 1) 0 = some 0 := by
  unfold ixN
  rw [if_pos (by omega), if_pos (by omega)]
  rfl
theorem l_at1 {α : Type} {a0 a1 : α} {l : List α} : atI (a0 :: a1 :: l) 1 = some a1 := by
  unfold atI ixN
  rw [if_pos (by omega), if_pos (by simp only [List.length_cons]; omega)]
  rfl
theorem l_ixn1 {n : Nat} : ixN (n + 1 + 1) 1 = some 1 := by
  unfold ixN
  rw [if_pos (by omega), if_pos (by omega)]
  rfl
theorem l_at2 {α : Type} {a0 a1 a2 : α} {l : List α} : atI (a0 :: a1 :: a2 :: l) 2 = some a2 := by
  unfold atI ixN
  rw [if_pos (by omega), if_pos (by simp only [List.length_cons]; omega)]
  rfl
theorem l_ixn2 {n : Nat} : ixN (n + 1 + 1 + 1) 2 = some 2 := by
  unfold ixN
  rw [if_pos (by omega), if_pos (by omega)]
  rfl
theorem l_at3 {α : Type} {a0 a1 a2 a3 : α} {l : List α} : atI (a0 :: a1 :: a2 :: a3 :: l) 3 = some a3 := by
  unfold atI ixN
  rw [if_pos (by omega), if_pos (by simp only [List.length_cons]; omega)]
  rfl
theorem l_ixn3 {n : Nat} : ixN (n + 1 + 1 + 1 + 1) 3 = some 3 := by
  unfold ixN
  rw [if_pos (by omega), if_pos (by omega)]
  rfl
theorem l_at4 {α : Type} {a0 a1 a2 a3 a4 : α} {l : List α} : atI (a0 :: a1 :: a2 :: a3 :: a4 :: l) 4 = some a4 := by
  unfold atI ixN
  rw [if_pos (by omega), if_pos (by simp only [List.length_cons]; omega)]
  rfl
theorem l_ixn4 {n : Nat} : ixN (n + 1 + 1 + 1 + 1 + 1) 4 = some 4 := by
  unfold ixN
  rw [if_pos (by omega), if_pos (by omega)]
  rfl
theorem l_at5 {α : Type} {a0 a1 a2 a3 a4 a5 : α} {l : List α} : atI (a0 :: a1 :: a2 :: a3 :: a4 :: a5 :: l) 5 = some a5 := by
  unfold atI ixN
  rw [if_pos (by omega), if_pos (by simp only [List.length_cons]; omega)]
  rfl
theorem l_ixn5 {n : Nat} : ixN (n + 1 + 1 + 1 + 1 + 1 + 1) 5 = some 5 := by
  unfold ixN
  rw [if_pos (by omega), if_pos (by omega)]
  rfl
theorem l_at6 {α : Type} {a0 a1 a2 a3 a4 a5 a6 : α} {l : List α} : atI (a0 :: a1 :: a2 :: a3 :: a4 :: a5 :: a6 :: l) 6 = some a6 := by
  unfold atI ixN
  rw [if_pos (by omega), if_pos (by simp only [List.length_cons]; omega)]
  rfl
theorem l_ixn6 {n : Nat} : ixN (n + 1 + 1 + 1 + 1 + 1 + 1 + 1) 6 = some 6 := by
  unfold ixN
  rw [if_pos (by omega), if_pos (by omega)]
  rfl
theorem l_at7 {α : Type} {a0 a1 a2 a3 a4 a5 a6 a7 : α} {l : List α} : atI (a0 :: a1 :: a2 :: a3 :: a4 :: a5 :: a6 :: a7 :: l) 7 = some a7 := by
  unfold atI ixN
  rw [if_pos (by omega), if_pos (by simp only [List.length_cons]; omega)]
  rfl
theorem l_ixn7 {n : Nat} : ixN (n + 1 + 1 + 1 + 1 + 1 + 1 + 1 + 1) 7 = some 7 := by
  unfold ixN
  rw [if_pos (by omega), if_pos (by omega)]
  rfl
theorem l_len0 {α : Type} : ([] : List α).length = 0 := rfl
theorem l_lenC {α : Type} {a : α} {l : List α} : (a :: l).length = l.length + 1 := rfl
theorem l_dT {h : Decidable True} : @decide True h = true := decide_eq_true trivial
theorem l_dF {h : Decidable False} : @decide False h = false := decide_eq_false id
theorem l_nT : (!true) = false := rfl
theorem l_nF : (!false) = true := rfl
theorem l_le {a : Nat} {k : Nat} : (a + 1 ≤ k + 1) = (a ≤ k) := by simp
theorem l_sz {a : Nat} (h : a ≤ 1000) : decide (a ≤ SZ) = true := decide_eq_true (Nat.le_trans h (by decide))
theorem l_ixO {n : Nat} {l : List PyData} {S : Sto} {i : Int} (h : lstOf S n = some l) : gIx (.o n) (.d (.int i)) S = lft S (atI l i) := by rw [v_ixO, h]
theorem l_lst0 {ds : List PyData} {S : Sto} : lstOf (.lst ds :: S) 0 = some ds := rfl
theorem l_lstS {o : Ob} {S : Sto} {n : Nat} : lstOf (o :: S) (n + 1) = lstOf S n := rfl
theorem l_dct0 {ds : Kvs} {S : Sto} : dctOf (.dct ds :: S) 0 = some ds := rfl
theorem l_dctS {o : Ob} {S : Sto} {n : Nat} : dctOf (o :: S) (n + 1) = dctOf S n := rfl
theorem dct_lt {S : Sto} {n : Nat} {ds : Kvs} (h : dctOf S n = some ds) : n < S.length := by
  have h := dctOf_ok h
  exact (List.getElem?_eq_some_iff.mp h).1
theorem dct_set {S : Sto} {n : Nat} {ds es : Kvs} (h : dctOf S n = some ds) : dctOf (S.set n (.dct es)) n = some es := by
  unfold dctOf
  rw [List.getElem?_set_self (dct_lt h)]
theorem lst_lt {S : Sto} {n : Nat} {ds : List PyData} (h : lstOf S n = some ds) : n < S.length := by
  have h := lstOf_ok h
  exact (List.getElem?_eq_some_iff.mp h).1
theorem lst_set {S : Sto} {n : Nat} {ds es : List PyData} (h : lstOf S n = some ds) : lstOf (S.set n (.lst es)) n = some es := by
  unfold lstOf
  rw [List.getElem?_set_self (lst_lt h)]
theorem set_set {S : Sto} {n : Nat} {a b : Ob} : (S.set n a).set n b = S.set n b := by simp
def EV := And.intro @x_var (And.intro @x_con (And.intro @x_bin (And.intro @x_un (And.intro @x_args0 (And.intro @x_args (And.intro @x_call (And.intro @x_tst (And.intro @x_tru (And.intro @x_not (And.intro @x_and (And.intro @x_or (And.intro @x_if (And.intro @x_andV (And.intro @x_orV (And.intro @x_notV (And.intro @x_sl (And.intro @x_part0 (And.intro @x_part (And.intro @x_metO (And.intro @x_metS (And.intro @x_metD (And.intro @x_dct0 (And.intro @x_dct1 (And.intro @x_addNll (And.intro @x_addNol (And.intro @x_addNlo (And.intro @x_par3 (And.intro @x_chain (And.intro @x_lrg (And.intro @x_dctN (And.intro @x_fz (And.intro @x_skip (And.intro @x_seq (And.intro @x_thenN (And.intro @x_thenR (And.intro @x_thenB (And.intro @x_thenC (And.intro @x_drop (And.intro @x_ret (And.intro @x_retN (And.intro @x_ite (And.intro @x_set (And.intro @x_asg (And.intro @x_brk (And.intro @x_cnt (And.intro @x_put (And.intro @x_for (And.intro @x_iter (And.intro @x_enum (And.intro @x_rev (And.intro @x_yes (And.intro @x_rng1 (And.intro @x_rng2 (And.intro @x_compN (And.intro @x_comp2 (And.intro @x_comp (And.intro @v_bool (And.intro @v_int (And.intro @v_dat2 (And.intro @v_cmp2 (And.intro @v_cmpO (And.intro @v_cmpP (And.intro @v_dat1 (And.intro @v_lft (And.intro @v_arg1 (And.intro @v_arg2 (And.intro @v_gAdd (And.intro @v_gAddO (And.intro @v_gAddP (And.intro @v_gAddQ (And.intro @v_addLL (And.intro @v_listN (And.intro @v_listNT (And.intro @v_listNO (And.intro @v_split (And.intro @v_addI (And.intro @v_addS (And.intro @v_addT (And.intro @v_addL (And.intro @v_subI (And.intro @v_mulS (And.intro @v_mulLs (And.intro @v_modP (And.intro @v_fdivP (And.intro @v_mulR (And.intro @v_mulL (And.intro @v_neg (And.intro @v_intI (And.intro @v_intB (And.intro @v_abs (And.intro @v_max (And.intro @v_min (And.intro @v_lenL (And.intro @v_lenT (And.intro @v_lenK (And.intro @v_lenO (And.intro @v_lenD (And.intro @v_listD (And.intro @v_ixD (And.intro @v_dcD (And.intro @v_dcO (And.intro @v_inD (And.intro @v_ninD (And.intro @v_getD (And.intro @v_getD2 (And.intro @v_isND (And.intro @v_sort (And.intro @v_sum (And.intro @v_max1 (And.intro @v_min1 (And.intro @v_lenS (And.intro @v_ixL (And.intro @v_ixT (And.intro @v_ixK (And.intro @v_ixO (And.intro @v_ixOT (And.intro @v_ixOS (And.intro @v_ixS (And.intro @v_slL (And.intro @v_slT (And.intro @v_slK (And.intro @v_listL (And.intro @v_listT (And.intro @v_listK (And.intro @v_back (And.intro @v_tupL (And.intro @v_tupT (And.intro @v_tupK (And.intro @v_tupO (And.intro @v_listO (And.intro @v_slO (And.intro @v_allL (And.intro @v_anyL (And.intro @v_isiN (And.intro @v_isiB (And.intro @v_isiI (And.intro @v_isiS (And.intro @v_isiL (And.intro @v_isiT (And.intro @v_truB (And.intro @v_isTn (And.intro @v_isTp (And.intro @v_isN0 (And.intro @v_isNB (And.intro @v_isNI (And.intro @v_isNS (And.intro @v_isNL (And.intro @v_isNT (And.intro @v_pow18 (And.intro @v_ltI (And.intro @v_gtI (And.intro @v_leI (And.intro @v_geI (And.intro @v_ltS (And.intro @v_gtS (And.intro @v_eqI (And.intro @v_eqS (And.intro @v_eqB (And.intro @v_neI (And.intro @v_neS (And.intro @v_neB (And.intro @v_inC (And.intro @v_ninC (And.intro @bind_okE (And.intro @bind_badE (And.intro @bind_excE (And.intro @bind_assoc (And.intro @pick_t (And.intro @pick_f (And.intro @mapO_some (And.intro @mapO_none (And.intro @l_get0 (And.intro @l_getS (And.intro @l_set0 (And.intro @l_setS (And.intro @l_wipe0 (And.intro @l_wipe (And.intro @l_datas0 (And.intro @l_datas (And.intro @l_tup (And.intro @l_lst (And.intro @l_new (And.intro @l_put (And.intro @l_putL (And.intro @l_srcD (And.intro @l_srcL (And.intro @l_srcT (And.intro @l_srcS (And.intro @l_srcK (And.intro @l_tnm (And.intro @l_at0 (And.intro @l_ixn0 (And.intro @l_at1 (And.intro @l_ixn1 (And.intro @l_at2 (And.intro @l_ixn2 (And.intro @l_at3 (And.intro @l_ixn3 (And.intro @l_at4 (And.intro @l_ixn4 (And.intro @l_at5 (And.intro @l_ixn5 (And.intro @l_at6 (And.intro @l_ixn6 (And.intro @l_at7 (And.intro @l_ixn7 (And.intro @l_len0 (And.intro @l_lenC (And.intro @l_dT (And.intro @l_dF (And.intro @l_nT (And.intro @l_nF (And.intro @l_lst0 (And.intro @l_lstS (And.intro @l_dct0 (@l_dctS))))))))))))))))))))))))))))))))))))))))))))))))))))))))))))))))))))))))))))))))))))))))))))))))))))))))))))))))))))))))))))))))))))))))))))))))))))))))))))))))))))))))))))))))))))))))))))))))))))))))))))))))))))))))

/-! ### a def's end -/
theorem Sat_end {keep : Bool} {n : Nat} {r : R Fl} {Q : Vl → Sto → Prop} : (fnEnd keep n r).Sat Q = r.Sat fun fl S' => match fl with
      | .rt v => (fin keep n v S').Sat Q
      | .nx _ => (fin keep n (.d .none) S').Sat Q
      | _ => False := by
  cases r with
  | bad => rfl
  | exc c fs S' => rfl
  | ok fl S' => cases fl <;> rfl
theorem SatE_end {keep : Bool} {n : Nat} {r : R Fl} {Q : Vl → Sto → Prop} {E : Str → Fds → Sto → Prop} : (fnEnd keep n r).SatE Q E = r.SatE (fun fl S' => match fl with
      | .rt v => (fin keep n v S').SatE Q E
      | .nx _ => (fin keep n (.d .none) S').SatE Q E
      | _ => False) (fun c fs S' => E c fs (S'.take n)) := by
  cases r with
  | bad => rfl
  | exc c fs S' => rfl
  | ok fl S' => cases fl <;> rfl
theorem fin_d {keep : Bool} {n : Nat} {d : PyData} {S : Sto} : fin keep n (.d d) S = .ok (.d d) (S.take n) := rfl
end L2.Pv

set_option Elab.async false
set_option linter.all false
set_option maxRecDepth 100000
namespace L2.Pv
open PySem PySem.Spec PyProof.Rows L2
/-! ### the tape -/
structure Tp (S : Sto) (t : Nat) : Prop where
  ex : ∃ (ns : List Int) (p c m : Int), lstOf S t = some [.list (ns.map .int), .int p, .int c, .int m] ∧ 0 ≤ p ∧ 0 ≤ c
structure Kp (t : Nat) (S S' : Sto) : Prop where
  tp : Tp S' t
  len : S'.length = S.length
  eq : ∀ j, j ≠ t → S'[j]? = S[j]?
theorem Kp.refl {t : Nat} {S : Sto} (h : Tp S t) : Kp t S S := ⟨h, rfl, fun _ _ => rfl⟩
theorem Kp.trans {t : Nat} {S S1 S2 : Sto} (a : Kp t S S1) (b : Kp t S1 S2) : Kp t S S2 := ⟨b.tp, b.len.trans a.len, fun j h => (b.eq j h).trans (a.eq j h)⟩
theorem Kp.set {t : Nat} {S : Sto} {ns : List Int} {p c m : Int} (h : t < S.length) (h1 : 0 ≤ p) (h2 : 0 ≤ c) : Kp t S (S.set t (.lst [.list (ns.map .int), .int p, .int c, .int m])) where
  tp := ⟨ns, p, c, m, by
    unfold lstOf
    rw [List.getElem?_set_self h], h1, h2⟩
  len := by simp
  eq := fun j hj => List.getElem?_set_ne (fun e => hj e.symm)
theorem Kp.take {t : Nat} {S S' : Sto} (a : Kp t S S') : S'.take S.length = S' := List.take_of_length_le (by rw [a.len]; exact Nat.le_refl _)
theorem take_all {S : Sto} : S.take S.length = S := List.take_length
/-- what a call that draws satisfies -/
def Gen (t : Nat) (S : Sto) (r : R Vl) (P : Vl → Prop) : Prop := r.Sat fun v S' => P v ∧ Kp t S S'
theorem Gen.mono {t : Nat} {S : Sto} {r : R Vl} {P P' : Vl → Prop} (h : Gen t S r P) (f : ∀ v, P v → P' v) : Gen t S r P' := R.Sat.mono h fun v S' ⟨a, b⟩ => ⟨f v a, b⟩
/-- a draw, then the rest -/
theorem Gen.then {β : Type} {t : Nat} {S0 S : Sto} {r : R Vl} {P : Vl → Prop} {f : Vl → Sto → R β} {Q : β → Sto → Prop} (hk : Kp t S0 S) (h : Gen t S r P) (k : ∀ v S', P v → Kp t S0 S' → (f v S').Sat Q) : (r.bind f).Sat Q :=
  R.Sat.bind h fun v S' ⟨a, b⟩ => k v S' a (hk.trans b)
/-- a def that draws -/
theorem Gen.end {t : Nat} {S : Sto} {r : R Fl} {P : Vl → Prop} (h : r.Sat fun fl S' => ∃ d, fl = .rt (.d d) ∧ P (.d d) ∧ Kp t S S') : Gen t S (fnEnd false S.length r) P := by
  unfold Gen
  rw [Sat_end]
  refine h.mono fun fl S' ⟨d, e, hp, hk⟩ => ?_
  subst e
  show P (.d d) ∧ Kp t S (S'.take S.length)
  rw [hk.take]
  exact ⟨hp, hk⟩
theorem int_nn {i : Int} : 0 ≤ (if i < 0 then -i else i) := by split <;> omega
theorem atI_map {ns : List Int} {i : Int} (h : 0 ≤ i) (h2 : i < ns.length) : ∃ x, atI (ns.map PyData.int) i = some (.int x) := by
  unfold atI ixN
  obtain ⟨j, rfl⟩ := Int.eq_ofNat_of_zero_le h
  have h3 : j < ns.length := by omega
  refine ⟨ns[j], ?_⟩
  simp [h3]
theorem Sat_pickOB {β : Type} {b : Bool} {x y : Option PyData} {S : Sto} {f : Vl → Sto → R β} {Q : β → Sto → Prop} (h1 : b = true → ((lft S x).bind f).Sat Q) (h2 : b = false → ((lft S y).bind f).Sat Q) : ((lft S (pick b x y)).bind f).Sat Q := by
  cases b
  · exact h2 rfl
  · exact h1 rfl
end L2.Pv

set_option Elab.async false
set_option linter.all false
set_option maxRecDepth 100000
namespace L2.Pv
open PySem PySem.Spec PyProof.Rows L2
/-! ### texts as lists of signs -/
def ts (x : Str) : List Nat := x.cps.toList
def mk (l : List Nat) : Str := ⟨l.toArray⟩
theorem ts_mk (l : List Nat) : ts (mk l) = l := by simp [ts, mk]
theorem mk_ts (x : Str) : mk (ts x) = x := by simp [ts, mk]
theorem str_ext {a b : Str} (h : ts a = ts b) : a = b := by rw [← mk_ts a, ← mk_ts b, h]
theorem ts_app (a b : Str) : ts (a ++ b) = ts a ++ ts b := by
  show (a.cps ++ b.cps).toList = _
  simp [ts]
theorem len_ts (x : Str) : x.length = (ts x).length := by
  show x.cps.size = x.cps.toList.length
  simp
theorem ts_empty : ts Str.empty = [] := rfl
theorem ts_join0 {a : Str} (ha : ts a = []) : ∀ zs : List Str, ts (Str.join a zs) = (zs.map ts).flatten
  | [] => rfl
  | [x] => by simp [Str.join]
  | x :: y :: r => by
    have ih := ts_join0 ha (y :: r)
    show ts (x ++ a ++ Str.join a (y :: r)) = _
    rw [ts_app, ts_app, ha, ih]
    simp
theorem len_app (a b : Str) : (a ++ b).length = a.length + b.length := by rw [len_ts, len_ts, len_ts, ts_app, List.length_append]
theorem len_join0 {a : Str} (ha : ts a = []) (zs : List Str) : (Str.join a zs).length = (zs.map (·.length)).sum := by
  rw [len_ts, ts_join0 ha, List.length_flatten, List.map_map]
  congr 1
theorem strs_map (zs : List Str) : strsOf (zs.map .str) = some zs := by
  induction zs with
  | nil => rfl
  | cons z r ih =>
    show (strsOf (r.map .str)).map (z :: ·) = _
    rw [ih]
    rfl
theorem sum_le {n : Nat} : ∀ {l : List Nat}, (∀ x ∈ l, x ≤ n) → l.sum ≤ l.length * n
  | [], _ => by simp
  | x :: r, h => by
    have := sum_le (l := r) fun y hy => h y (List.mem_cons_of_mem _ hy)
    have := h x List.mem_cons_self
    simp only [List.sum_cons, List.length_cons, Nat.add_mul]
    omega
/-- ''.join of texts -/
theorem j_join {a : Str} {zs : List Str} {S : Sto} {n : Nat} (ha : ts a = []) (h : ∀ z ∈ zs, z.length ≤ n) (hn : zs.length * n ≤ SZ) : gJoin (.d (.str a)) [.d (.list (zs.map .str))] S = .ok (.d (.str (Str.join a zs))) S := by
  have h1 : (zs.map (·.length)).sum ≤ zs.length * n := by
    have := sum_le (l := zs.map (·.length)) (n := n) fun x hx => by
      obtain ⟨z, hz, e⟩ := List.mem_map.mp hx
      exact e ▸ h z hz
    rwa [List.length_map] at this
  have h2 : a.length = 0 := by rw [len_ts, ha]; rfl
  have e : gJoin (.d (.str a)) [.d (.list (zs.map .str))] S = (match strsOf (zs.map .str) with
        | some ys => if (ys.map (·.length)).sum + ys.length * a.length ≤ 16777216 then .ok (.d (.str (Str.join a ys))) S else .bad
        | none => .bad) := rfl
  rw [e, strs_map]
  show (if _ then _ else _) = _
  rw [if_pos]
  rw [h2]
  show _ ≤ SZ
  omega
theorem all_strs {P : Str → Prop} : ∀ {ys : List PyData}, (∀ y ∈ ys, ∃ z, y = .str z ∧ P z) → ∃ zs : List Str, ys = zs.map .str ∧ ∀ z ∈ zs, P z
  | [], _ => ⟨[], rfl, fun _ h => by cases h⟩
  | y :: r, h => by
    obtain ⟨zs, e, h2⟩ := all_strs (P := P) (ys := r) fun y hy => h y (List.mem_cons_of_mem _ hy)
    obtain ⟨z, e3, h3⟩ := h y List.mem_cons_self
    refine ⟨z :: zs, by rw [e, e3]; rfl, fun w hw => ?_⟩
    rcases List.mem_cons.mp hw with rfl | hw
    · exact h3
    · exact h2 w hw
/-! ### ranges -/
theorem rng_ok {n : Int} (h0 : 0 ≤ n) (h : n ≤ 1000000) : decide (-(2 ^ 62) ≤ n ∧ n < 2 ^ 62) = true := decide_eq_true ⟨by omega, by omega⟩
theorem rng_fuel {n : Int} {i : Int} (h : n ≤ 1000000) : decide (fuelOf (.its (rngIts i n.toNat)) ≤ SZ) = true := by
  apply decide_eq_true
  show (rngIts i n.toNat).length + 1 ≤ 16777216
  unfold rngIts
  rw [List.length_map, List.length_range]
  omega
theorem rng_len {n : Nat} {i : Int} : (rngIts i n).length = n := by unfold rngIts; rw [List.length_map, List.length_range]
/-! ### comprehensions -/
/-- each element is drawn -/
theorem Gen.comp {β : Type} {t : Nat} {S0 S : Sto} {all : List PyData} {tg : Tg} {elt : SE} {Γ : Env} {P : PyData → Prop} {f : List PyData → Sto → R β} {Q : β → Sto → Prop} (hk : Kp t S0 S)
    (step : ∀ d S', Kp t S0 S' → d ∈ all → ∃ Γ2, tg d Γ = some Γ2 ∧ Gen t S' (elt Γ2 S') fun v => ∃ y, v = .d y ∧ P y)
    (k : ∀ ys S', ys.length = all.length → (∀ y ∈ ys, P y) → Kp t S0 S' → (f ys S').Sat Q) : ((cloop tg sYes elt Γ (.its all) (fuelOf (.its all)) 0 S).bind f).Sat Q := by
  rw [Sat_bind]
  refine Sat_comp (fun rest acc S' => rest.length + acc.length = all.length ∧ (∀ d ∈ rest, d ∈ all) ∧ (∀ y ∈ acc, P y) ∧ Kp t S0 S') ⟨rfl, fun _ h => h, fun _ h => absurd h (by simp), hk⟩ ?_ ?_
  · rintro d rest acc S' ⟨h1, h2, h3, h4⟩
    obtain ⟨Γ2, e, h⟩ := step d S' h4 (h2 d List.mem_cons_self)
    refine ⟨Γ2, e, ?_⟩
    show ((elt Γ2 S').bind fun v S2 => .ok (some v) S2).Sat _
    rw [Sat_bind]
    refine R.Sat.mono h fun v S2 ⟨⟨y, e2, hp⟩, hk2⟩ => ?_
    subst e2
    show _ ∧ _ ∧ _ ∧ _
    refine ⟨by simp only [List.length_cons, List.length_append, List.length_nil] at h1 ⊢; omega, fun d hd => h2 d (List.mem_cons_of_mem _ hd), fun z hz => ?_, h4.trans hk2⟩
    rcases List.mem_append.mp hz with hz | hz
    · exact h3 z hz
    · rw [List.mem_singleton.mp hz]; exact hp
  · rintro acc S' ⟨h1, h2, h3, h4⟩
    exact k acc S' (by simpa using h1) h3 h4
/-- each element is computed -/
theorem cloop_map {tg : Tg} {elt : SE} {Γ : Env} {S : Sto} {f : PyData → PyData} {all : List PyData} : ∀ (n i : Nat), i ≤ all.length → all.length - i < n → (∀ d ∈ all, ∃ Γ2, tg d Γ = some Γ2 ∧ elt Γ2 S = .ok (.d (f d)) S) →
    cloop tg sYes elt Γ (.its all) n i S = .ok ((all.drop i).map f) S
  | 0, i, h0, h1, h => absurd h1 (Nat.not_lt_zero _)
  | n + 1, i, h0, h1, h => by
    unfold cloop
    by_cases hi : i < all.length
    · obtain ⟨Γ2, e1, e2⟩ := h all[i] (List.getElem_mem hi)
      simp only [nxt, List.getElem?_eq_getElem hi, e1, e2, sYes, R.bindB, cloop_map n (i + 1) hi (by omega) h]
      rw [List.drop_eq_getElem_cons hi, List.map_cons]
      rfl
    · have e : i = all.length := by omega
      subst e
      simp only [nxt, List.getElem?_eq_none (Nat.le_refl _), List.drop_length, List.map_nil]
theorem comp_map {tg : Tg} {elt : SE} {Γ : Env} {S : Sto} {all : List PyData} (f : PyData → PyData) (h : ∀ d ∈ all, ∃ Γ2, tg d Γ = some Γ2 ∧ elt Γ2 S = .ok (.d (f d)) S) :
    cloop tg sYes elt Γ (.its all) (fuelOf (.its all)) 0 S = .ok (all.map f) S := by
  exact cloop_map _ 0 (Nat.zero_le _) (Nat.lt_succ_self _) h
theorem cloop_filt {tg : Tg} {tst : ST} {elt : SE} {Γ : Env} {S : Sto} {p : PyData → Bool} {f : PyData → PyData} {all : List PyData} : ∀ (n i : Nat), i ≤ all.length → all.length - i < n →
    (∀ d ∈ all, ∃ Γ2, tg d Γ = some Γ2 ∧ tst Γ2 S = .ok (p d) S ∧ (p d = true → elt Γ2 S = .ok (.d (f d)) S)) →
    cloop tg tst elt Γ (.its all) n i S = .ok (((all.drop i).filter p).map f) S
  | 0, i, h0, h1, h => absurd h1 (Nat.not_lt_zero _)
  | n + 1, i, h0, h1, h => by
    unfold cloop
    by_cases hi : i < all.length
    · obtain ⟨Γ2, e1, e2, e3⟩ := h all[i] (List.getElem_mem hi)
      rw [List.drop_eq_getElem_cons hi, List.filter_cons]
      cases hp : p all[i] with
      | true =>
        simp only [nxt, List.getElem?_eq_getElem hi, e1, e2, hp, e3 hp, R.bindB, cloop_filt n (i + 1) hi (by omega) h]
        rfl
      | false =>
        simp only [nxt, List.getElem?_eq_getElem hi, e1, e2, hp, R.bindB, cloop_filt n (i + 1) hi (by omega) h]
        rfl
    · have e : i = all.length := by omega
      subst e
      simp only [nxt, List.getElem?_eq_none (Nat.le_refl _), List.drop_length, List.map_nil, List.filter_nil]
theorem comp_filt {tg : Tg} {tst : ST} {elt : SE} {Γ : Env} {S : Sto} {all : List PyData} (p : PyData → Bool) (f : PyData → PyData) (h : ∀ d ∈ all, ∃ Γ2, tg d Γ = some Γ2 ∧ tst Γ2 S = .ok (p d) S ∧ (p d = true → elt Γ2 S = .ok (.d (f d)) S)) :
    cloop tg tst elt Γ (.its all) (fuelOf (.its all)) 0 S = .ok ((all.filter p).map f) S := by
  exact cloop_filt _ 0 (Nat.zero_le _) (Nat.lt_succ_self _) h
theorem cloop_filtg {α : Type} {tg : Tg} {tst : ST} {elt : SE} {Γ : Env} {S : Sto} {g : α → PyData} {p : α → Bool} {f : α → PyData} {all : List α} : ∀ (n i : Nat), i ≤ all.length → all.length - i < n →
    (∀ d ∈ all, ∃ Γ2, tg (g d) Γ = some Γ2 ∧ tst Γ2 S = .ok (p d) S ∧ (p d = true → elt Γ2 S = .ok (.d (f d)) S)) →
    cloop tg tst elt Γ (.its (all.map g)) n i S = .ok (((all.drop i).filter p).map f) S
  | 0, i, h0, h1, h => absurd h1 (Nat.not_lt_zero _)
  | n + 1, i, h0, h1, h => by
    unfold cloop
    by_cases hi : i < all.length
    · obtain ⟨Γ2, e1, e2, e3⟩ := h all[i] (List.getElem_mem hi)
      rw [List.drop_eq_getElem_cons hi, List.filter_cons]
      cases hp : p all[i] with
      | true =>
        simp only [nxt, List.getElem?_map, List.getElem?_eq_getElem hi, mapO_some, e1, e2, hp, e3 hp, R.bindB, cloop_filtg n (i + 1) hi (by omega) h]
        rfl
      | false =>
        simp only [nxt, List.getElem?_map, List.getElem?_eq_getElem hi, mapO_some, e1, e2, hp, R.bindB, cloop_filtg n (i + 1) hi (by omega) h]
        rfl
    · have e : i = all.length := by omega
      subst e
      simp only [nxt, List.getElem?_map, mapO_none, List.getElem?_eq_none (Nat.le_refl _), List.drop_length, List.map_nil, List.filter_nil]
/-- over what is told as data: filtered, computed -/
theorem comp_filtg {α : Type} {tg : Tg} {tst : ST} {elt : SE} {Γ : Env} {S : Sto} {all : List α} (g : α → PyData) (p : α → Bool) (f : α → PyData) (h : ∀ d ∈ all, ∃ Γ2, tg (g d) Γ = some Γ2 ∧ tst Γ2 S = .ok (p d) S ∧ (p d = true → elt Γ2 S = .ok (.d (f d)) S)) :
    cloop tg tst elt Γ (.its (all.map g)) (fuelOf (.its (all.map g))) 0 S = .ok ((all.filter p).map f) S := by
  refine cloop_filtg _ 0 (Nat.zero_le _) ?_ h
  show _ < (all.map g).length + 1
  rw [List.length_map]
  omega
theorem comp_mapg {α : Type} {tg : Tg} {elt : SE} {Γ : Env} {S : Sto} {all : List α} (g : α → PyData) (f : α → PyData) (h : ∀ d ∈ all, ∃ Γ2, tg (g d) Γ = some Γ2 ∧ elt Γ2 S = .ok (.d (f d)) S) :
    cloop tg sYes elt Γ (.its (all.map g)) (fuelOf (.its (all.map g))) 0 S = .ok (all.map f) S := by
  have e := comp_filtg (tst := sYes) g (fun _ => true) f fun d hd => by
    obtain ⟨Γ2, e1, e2⟩ := h d hd
    exact ⟨Γ2, e1, rfl, fun _ => e2⟩
  rw [e, List.filter_eq_self.mpr fun _ _ => rfl]
/-- a for whose turns keep the names: each turn goes on, or some turn ends the def -/
theorem floop_g {α : Type} {tg : Tg} {b : SS} {S : Sto} {g : α → PyData} {r : α → Option Vl} {I : Env → Prop} {all : List α} : ∀ (n i : Nat) (Γ : Env), i ≤ all.length → all.length - i < n → I Γ →
    (∀ d ∈ all, ∀ Γ, I Γ → ∃ Γ2, tg (g d) Γ = some Γ2 ∧ match r d with
      | none => ∃ Γ3, (b Γ2 S = .ok (.nx Γ3) S ∨ b Γ2 S = .ok (.ct Γ3) S) ∧ I Γ3
      | some v => b Γ2 S = .ok (.rt v) S) →
    match (all.drop i).findSome? r with
      | some v => floop tg b (.its (all.map g)) n i Γ S = .ok (.rt v) S
      | none => ∃ Γ3, floop tg b (.its (all.map g)) n i Γ S = .ok (.nx Γ3) S ∧ I Γ3
  | 0, i, Γ, h0, h1, hI, h => absurd h1 (Nat.not_lt_zero _)
  | n + 1, i, Γ, h0, h1, hI, h => by
    unfold floop
    by_cases hi : i < all.length
    · obtain ⟨Γ2, e1, e2⟩ := h all[i] (List.getElem_mem hi) Γ hI
      rw [List.drop_eq_getElem_cons hi, List.findSome?_cons]
      revert e2
      cases hp : r all[i] with
      | some v =>
        intro e2
        simp only [nxt, List.getElem?_map, List.getElem?_eq_getElem hi, mapO_some, e1, e2, R.bind]
      | none =>
        rintro ⟨Γ3, e2, hI3⟩
        have ih := floop_g n (i + 1) Γ3 hi (by omega) hI3 h
        rcases e2 with e2 | e2 <;> simp only [nxt, List.getElem?_map, List.getElem?_eq_getElem hi, mapO_some, e1, e2, R.bind] <;> exact ih
    · have e : i = all.length := by omega
      subst e
      simp only [nxt, List.getElem?_map, mapO_none, List.getElem?_eq_none (Nat.le_refl _), List.drop_length, List.findSome?_nil]
      exact ⟨Γ, rfl, hI⟩
theorem for_g {α : Type} {tg : Tg} {b : SS} {S : Sto} {Γ : Env} {all : List α} (g : α → PyData) (r : α → Option Vl) (I : Env → Prop) (hI : I Γ) (h : ∀ d ∈ all, ∀ Γ, I Γ → ∃ Γ2, tg (g d) Γ = some Γ2 ∧ match r d with
      | none => ∃ Γ3, (b Γ2 S = .ok (.nx Γ3) S ∨ b Γ2 S = .ok (.ct Γ3) S) ∧ I Γ3
      | some v => b Γ2 S = .ok (.rt v) S) :
    match all.findSome? r with
      | some v => floop tg b (.its (all.map g)) (fuelOf (.its (all.map g))) 0 Γ S = .ok (.rt v) S
      | none => ∃ Γ3, floop tg b (.its (all.map g)) (fuelOf (.its (all.map g))) 0 Γ S = .ok (.nx Γ3) S ∧ I Γ3 := by
  refine floop_g _ 0 Γ (Nat.zero_le _) ?_ hI h
  show _ < (all.map g).length + 1
  rw [List.length_map]
  omega
theorem strIts_map (z : Str) : strIts z = (ts z).map fun c => .str ⟨#[c]⟩ := rfl
theorem str_fuel {z : Str} (h : z.length ≤ 1000000) : decide (fuelOf (.its (strIts z)) ≤ SZ) = true := decide_eq_true (by
  show (strIts z).length + 1 ≤ 16777216
  rw [strIts_map, List.length_map, ← len_ts]
  omega)
theorem bools_map (bs : List Bool) : boolsOf (bs.map .bool) = some bs := by
  induction bs with
  | nil => rfl
  | cons z r ih =>
    show (boolsOf (r.map .bool)).map (z :: ·) = _
    rw [ih]
    rfl
theorem for_all {α : Type} {tg : Tg} {b : SS} {S : Sto} {Γ : Env} {all : List α} (g : α → PyData) (p : α → Bool) (v : Vl) (I : Env → Prop) (hI : I Γ) (h : ∀ d ∈ all, ∀ Γ, I Γ → ∃ Γ2, tg (g d) Γ = some Γ2 ∧ (p d = true → ∃ Γ3, (b Γ2 S = .ok (.nx Γ3) S ∨ b Γ2 S = .ok (.ct Γ3) S) ∧ I Γ3) ∧ (p d = false → b Γ2 S = .ok (.rt v) S)) :
    (all.all p = true ∧ ∃ Γ3, floop tg b (.its (all.map g)) (fuelOf (.its (all.map g))) 0 Γ S = .ok (.nx Γ3) S ∧ I Γ3) ∨ (all.all p = false ∧ floop tg b (.its (all.map g)) (fuelOf (.its (all.map g))) 0 Γ S = .ok (.rt v) S) := by
  have hf := for_g (tg := tg) (b := b) (S := S) (Γ := Γ) (all := all) g (fun d => pick (p d) none (some v)) I hI fun d hd Γ hI => by
    obtain ⟨Γ2, e, h1, h2⟩ := h d hd Γ hI
    refine ⟨Γ2, e, ?_⟩
    cases hp : p d with
    | true => exact h1 hp
    | false => exact h2 hp
  have e1 : all.findSome? (fun d => pick (p d) none (some v)) = pick (all.all p) none (some v) := by
    clear hf h
    induction all with
    | nil => rfl
    | cons a l ih =>
      rw [List.findSome?_cons, List.all_cons, ih]
      cases p a <;> rfl
  rw [e1] at hf
  cases h : all.all p with
  | true =>
    rw [h] at hf
    exact .inl ⟨rfl, hf⟩
  | false =>
    rw [h] at hf
    exact .inr ⟨rfl, hf⟩
theorem len1 {c : Nat} : (⟨#[c]⟩ : Str).length = 1 := rfl
theorem len_cut {l : List Nat} {lo hi : Option Int} : (⟨(cutD l lo hi).toArray⟩ : Str).length ≤ l.length := by
  show (cutD l lo hi).toArray.size ≤ _
  simp only [List.size_toArray]
  unfold cutD
  simp only [List.length_take, List.length_drop]
  omega
theorem Sat_addS {β : Type} {a b : Str} {S : Sto} {f : Vl → Sto → R β} {Q : β → Sto → Prop} (h : a.length + b.length ≤ 16777216) (k : ∀ z : Str, z.length = a.length + b.length → ts z = ts a ++ ts b → (f (.d (.str z)) S).Sat Q) :
    ((lft S (pick (decide (a.length + b.length ≤ SZ)) (some (.str (a ++ b))) none)).bind f).Sat Q := by
  rw [decide_eq_true (show a.length + b.length ≤ SZ from h)]
  exact k _ (len_app a b) (ts_app a b)
theorem Sat_slS {β : Type} {z : Str} {lo hi : Option Int} {S : Sto} {f : Vl → Sto → R β} {Q : β → Sto → Prop} (h : z.length ≤ 16777216) (k : ∀ y : Str, y.length ≤ z.length → ts y = cutD (ts z) lo hi → (f (.d (.str y)) S).Sat Q) : ((gSl (.d (.str z)) lo hi S).bind f).Sat Q := by
  rw [v_slS, decide_eq_true (show z.length ≤ SZ from h)]
  exact k _ (Nat.le_trans len_cut (Nat.le_of_eq (len_ts z).symm)) (by simp [ts])
theorem cutD_map {α β : Type} (f : α → β) (l : List α) (lo hi : Option Int) : cutD (l.map f) lo hi = (cutD l lo hi).map f := by
  unfold cutD
  rw [List.length_map, List.map_take, List.map_drop]
theorem cutD_mem {α : Type} {l : List α} {lo hi : Option Int} {x : α} (h : x ∈ cutD l lo hi) : x ∈ l := List.mem_of_mem_drop (List.mem_of_mem_take h)
theorem cutD_len {α : Type} {l : List α} {lo hi : Option Int} : (cutD l lo hi).length ≤ l.length := by
  unfold cutD
  simp only [List.length_take, List.length_drop]
  omega
/-- every turn goes on -/
theorem for_on {α : Type} {tg : Tg} {b : SS} {S : Sto} {Γ : Env} {all : List α} (g : α → PyData) (I : Env → Prop) (hI : I Γ) (h : ∀ d ∈ all, ∀ Γ, I Γ → ∃ Γ2, tg (g d) Γ = some Γ2 ∧ ∃ Γ3, (b Γ2 S = .ok (.nx Γ3) S ∨ b Γ2 S = .ok (.ct Γ3) S) ∧ I Γ3) :
    ∃ Γ3, floop tg b (.its (all.map g)) (fuelOf (.its (all.map g))) 0 Γ S = .ok (.nx Γ3) S ∧ I Γ3 := by
  have hf := for_g (tg := tg) (b := b) (S := S) (Γ := Γ) (all := all) g (fun _ => none) I hI h
  rw [List.findSome?_eq_none_iff.mpr fun _ _ => rfl] at hf
  exact hf
/-- a for, then the rest -/
theorem Sat_forO {α β : Type} {tg : Tg} {b : SS} {S : Sto} {Γ : Env} {all : List α} {f : Fl → Sto → R β} {Q : β → Sto → Prop} {g : α → PyData} (I : List α → Env → Sto → Prop) (h0 : I all Γ S)
    (step : ∀ d rest Γ S, d ∈ all → I (d :: rest) Γ S → ∃ Γ2, tg (g d) Γ = some Γ2 ∧ (b Γ2 S).Sat fun fl S' => match fl with
      | .nx Γ' => I rest Γ' S'
      | .ct Γ' => I rest Γ' S'
      | .bk Γ' => (f (.nx Γ') S').Sat Q
      | .rt v => (f (.rt v) S').Sat Q)
    (k : ∀ Γ S, I [] Γ S → (f (.nx Γ) S).Sat Q) : ((floop tg b (.its (all.map g)) (fuelOf (.its (all.map g))) 0 Γ S).bind f).Sat Q := by
  rw [Sat_bind]
  refine Sat_for (fun ds Γ S => ∃ rest : List α, ds = rest.map g ∧ (∀ x ∈ rest, x ∈ all) ∧ I rest Γ S) ⟨all, rfl, fun _ h => h, h0⟩ ?_ ?_
  · rintro d ds Γ S ⟨rest, e, hm, hI⟩
    cases rest with
    | nil => cases e
    | cons x rest =>
      rw [List.map_cons] at e
      obtain ⟨e1, e2⟩ := List.cons.inj e
      subst e1 e2
      obtain ⟨Γ2, h1, h2⟩ := step x rest Γ S (hm x List.mem_cons_self) hI
      refine ⟨Γ2, h1, h2.mono fun fl S' h => ?_⟩
      cases fl with
      | nx Γ' => exact ⟨rest, rfl, fun y hy => hm y (List.mem_cons_of_mem _ hy), h⟩
      | ct Γ' => exact ⟨rest, rfl, fun y hy => hm y (List.mem_cons_of_mem _ hy), h⟩
      | bk Γ' => exact h
      | rt v => exact h
  · rintro Γ S ⟨rest, e, hm, hI⟩
    cases rest with
    | nil => exact k Γ S hI
    | cons x rest => cases e
theorem bools_mapg {α : Type} (f : α → Bool) (l : List α) : boolsOf (l.map fun a => .bool (f a)) = some (l.map f) := by
  rw [← bools_map, List.map_map]
  rfl
theorem strs_mapg {α : Type} (f : α → Str) (l : List α) : strsOf (l.map fun a => .str (f a)) = some (l.map f) := by
  rw [← strs_map, List.map_map]
  rfl
end L2.Pv

set_option Elab.async false
set_option linter.all false
set_option maxRecDepth 100000
namespace L2.Pv
open PySem PySem.Spec PyProof.Rows L2
theorem ord_c {c : Nat} : dOrd (.str ⟨#[c]⟩) = some (.int (c : Nat)) := rfl
theorem chr_eq {a b : Nat} : decide ((⟨#[a]⟩ : Str) = ⟨#[b]⟩) = decide (a = b) := by
  apply decide_eq_decide.mpr
  constructor
  · intro h
    have := congrArg ts h
    simpa [ts] using this
  · rintro rfl
    rfl
/-- sign by sign -/
theorem ix_str {x : Str} {k : Nat} {S : Sto} (hx : x.length ≤ 1000000) (hk : k < (ts x).length) : gIx (.d (.str x)) (.d (.int (k : Nat))) S = .ok (.d (.str ⟨#[(ts x)[k]]⟩)) S := by
  rw [v_ixS, decide_eq_true (show x.length ≤ SZ from Nat.le_trans hx (by decide)), pick_t]
  have h : atI x.cps.toList (k : Int) = some (ts x)[k] := by
    show atI (ts x) (k : Int) = _
    unfold atI ixN
    simp [hk]
  rw [h]
  rfl
/-! ### objects of a def's own, behind the store -/
theorem Tp.app {t : Nat} {S L : Sto} (h : Tp S t) : Tp (S ++ L) t := by
  obtain ⟨ns, p, c, m, e, h1, h2⟩ := h.ex
  refine ⟨ns, p, c, m, ?_, h1, h2⟩
  have hl := lst_lt e
  unfold lstOf at e ⊢
  rw [List.getElem?_append_left hl]
  exact e
theorem Tp.lt {t : Nat} {S : Sto} (h : Tp S t) : t < S.length := by
  obtain ⟨ns, p, c, m, e, h1, h2⟩ := h.ex
  exact lst_lt e
theorem Kp.split {t : Nat} {S1 L S' : Sto} (ht : t < S1.length) (h : Kp t (S1 ++ L) S') : ∃ S2, S' = S2 ++ L ∧ Kp t S1 S2 := by
  have hl := h.len
  rw [List.length_append] at hl
  have e : S' = S'.take S1.length ++ L := by
    apply List.ext_getElem?
    intro j
    by_cases hj : j < S1.length
    · rw [List.getElem?_append_left (by rw [List.length_take]; omega), List.getElem?_take, if_pos hj]
    · rw [h.eq j (by omega), List.getElem?_append_right (by omega), List.getElem?_append_right (by rw [List.length_take]; omega), List.length_take]
      congr 1
      omega
  refine ⟨_, e, ?_, by rw [List.length_take]; omega, fun j hj => ?_⟩
  · obtain ⟨ns, p, c, m, e, h1, h2⟩ := h.tp.ex
    refine ⟨ns, p, c, m, ?_, h1, h2⟩
    unfold lstOf at e ⊢
    rw [List.getElem?_take, if_pos ht]
    exact e
  · rw [List.getElem?_take]
    split
    · rename_i hlt
      rw [h.eq j hj, List.getElem?_append_left hlt]
    · rename_i hge
      rw [List.getElem?_eq_none (by omega)]
theorem Gen.thenL {β : Type} {t : Nat} {S0 S1 L : Sto} {r : R Vl} {P : Vl → Prop} {f : Vl → Sto → R β} {Q : β → Sto → Prop} (hk : Kp t S0 S1) (h : Gen t (S1 ++ L) r P) (k : ∀ v S2, P v → Kp t S0 S2 → (f v (S2 ++ L)).Sat Q) : (r.bind f).Sat Q :=
  R.Sat.bind h fun v S' ⟨a, b⟩ => by
    obtain ⟨S2, e, h2⟩ := b.split hk.tp.lt
    subst e
    exact k v S2 a (hk.trans h2)
theorem lst_own {S1 : Sto} {n : Nat} {ws : List PyData} (h : S1.length = n) : lstOf (S1 ++ [.lst ws]) n = some ws := by
  subst h
  unfold lstOf
  rw [List.getElem?_append_right (Nat.le_refl _), Nat.sub_self]
  rfl
theorem set_own {S1 : Sto} {n : Nat} {a b : Ob} (h : S1.length = n) : (S1 ++ [a]).set n b = S1 ++ [b] := by
  subst h
  rw [List.set_append_right _ _ (Nat.le_refl _), Nat.sub_self]
  rfl
theorem take_ownS {S1 L : Sto} {n : Nat} (h : S1.length = n) : (S1 ++ L).take n = S1 := by
  subst h
  exact List.take_left
/-- a list of the def's own goes out as data -/
theorem fin_own {S1 : Sto} {n : Nat} {ws : List PyData} (h : S1.length = n) : fin false n (.o n) (S1 ++ [Ob.lst ws]) = .ok (.d (.list ws)) S1 := by
  show (if n < n then _ else finO false n (S1 ++ [Ob.lst ws]) (S1 ++ [Ob.lst ws])[n]?) = _
  have e : (S1 ++ [Ob.lst ws])[n]? = some (Ob.lst ws) := by
    subst h
    rw [List.getElem?_append_right (Nat.le_refl _), Nat.sub_self]
    rfl
  rw [if_neg (Nat.lt_irrefl n), e]
  show R.ok (Vl.d (.list ws)) (List.take n (S1 ++ [Ob.lst ws])) = _
  rw [take_ownS h]
theorem app_own {S1 : Sto} {n : Nat} {ws : List PyData} {d : PyData} (h : S1.length = n) (hl : ws.length < SZ) : gAppend (.o n) [.d d] (S1 ++ [Ob.lst ws]) = .ok (.d .none) (S1 ++ [Ob.lst (ws ++ [d])]) := by
  show (match lstOf (S1 ++ [Ob.lst ws]) n with
    | some ds => if ds.length < SZ then R.ok (Vl.d .none) ((S1 ++ [Ob.lst ws]).set n (Ob.lst (ds ++ [d]))) else R.bad
    | none => R.bad) = _
  rw [lst_own h]
  show (if ws.length < SZ then _ else _) = _
  rw [if_pos hl, set_own h]
theorem met_own {S1 : Sto} {n : Nat} {ws : List PyData} {g : Vl → GL} {fs : List SE} {Γ : Env} {i : Nat} (h : S1.length = n) (hi : Γ[i]? = some (some (.o n))) : sMetO g (sVar i) fs Γ (S1 ++ [Ob.lst ws]) = (sArgs fs Γ (S1 ++ [Ob.lst ws])).bind fun vs S2 => g (.o n) vs S2 := by
  rw [x_metO, x_var, hi]
  show (match lstOf (S1 ++ [Ob.lst ws]) n with | some _ => _ | none => _) = _
  rw [lst_own h]
theorem rng_map {i : Int} {n : Nat} : rngIts i n = (List.range n).map fun (j : Nat) => .int (i + (j : Int)) := rfl
theorem rep_len {x : Str} {n : Int} : (strRep x n).length = n.toNat * x.length := by
  show ((List.replicate n.toNat x.cps.toList).flatten.toArray).size = _
  rw [List.size_toArray, List.length_flatten, List.map_replicate, List.sum_replicate_nat]
  rw [show x.cps.toList.length = x.length from (len_ts x).symm]
/-- every turn goes on -/
def On (I : Env → Sto → Prop) : Fl → Sto → Prop := fun fl S => match fl with
  | .nx Γ => I Γ S
  | .ct Γ => I Γ S
  | _ => False
theorem On_nx {I : Env → Sto → Prop} {Γ : Env} {S : Sto} : On I (.nx Γ) S = I Γ S := rfl
theorem On_ct {I : Env → Sto → Prop} {Γ : Env} {S : Sto} : On I (.ct Γ) S = I Γ S := rfl
theorem Sat_forC {α β : Type} {tg : Tg} {b : SS} {S : Sto} {Γ : Env} {all : List α} {f : Fl → Sto → R β} {Q : β → Sto → Prop} {g : α → PyData} (I : List α → Env → Sto → Prop) (h0 : I all Γ S)
    (step : ∀ d rest Γ S, d ∈ all → I (d :: rest) Γ S → ∃ Γ2, tg (g d) Γ = some Γ2 ∧ (b Γ2 S).Sat (On (I rest)))
    (k : ∀ Γ S, I [] Γ S → (f (.nx Γ) S).Sat Q) : ((floop tg b (.its (all.map g)) (fuelOf (.its (all.map g))) 0 Γ S).bind f).Sat Q :=
  Sat_forO I h0 (fun d rest Γ S hd hI => by
    obtain ⟨Γ2, e, h⟩ := step d rest Γ S hd hI
    refine ⟨Γ2, e, h.mono fun fl S' h => ?_⟩
    cases fl with
    | nx Γ' => exact h
    | ct Γ' => exact h
    | bk Γ' => exact h.elim
    | rt v => exact h.elim) k
theorem Sat_slS' {β : Type} {z : Str} {lo hi : Option Int} {S : Sto} {f : Vl → Sto → R β} {Q : β → Sto → Prop} (h : z.length ≤ 16777216) (k : ∀ y : Str, y.length = (cutD (ts z) lo hi).length → ts y = cutD (ts z) lo hi → (f (.d (.str y)) S).Sat Q) : ((gSl (.d (.str z)) lo hi S).bind f).Sat Q :=
  Sat_slS h fun y _ e => k y (by rw [len_ts, e]) e
theorem cut_to {α : Type} {l : List α} {i : Int} (h : 0 ≤ i) : cutD l none (some i) = l.take i.toNat := by
  unfold cutD HT.sIx
  simp only [List.drop_zero, Nat.sub_zero, if_neg (Int.not_lt.mpr h)]
  rw [List.take_eq_take_iff]
  omega
theorem cut_from {α : Type} {l : List α} {i : Int} (h : 0 ≤ i) : cutD l (some i) none = l.drop i.toNat := by
  unfold cutD HT.sIx
  simp only [if_neg (Int.not_lt.mpr h)]
  rw [List.take_of_length_le (by rw [List.length_drop]; exact Nat.le_refl _)]
  by_cases h2 : i.toNat ≤ l.length
  · rw [Nat.min_eq_left h2]
  · rw [Nat.min_eq_right (by omega), List.drop_length, List.drop_eq_nil_of_le (by omega)]
theorem ne_nil {l : List PyData} (hp : PyData.plainAll l = true) : dNe (.list l) (.list []) = some (.bool (!l.isEmpty)) := by
  unfold dNe dEqB
  have h : min (PyData.depth (.list l)) (PyData.depth (.list [])) ≤ 60 := Nat.le_trans (Nat.min_le_right _ _) (by decide)
  rw [if_pos ⟨h, by simpa [PyData.plain] using hp, rfl⟩]
  cases l <;> rfl
theorem eq_nil {l : List PyData} (hp : PyData.plainAll l = true) : dEq (.list l) (.list []) = some (.bool l.isEmpty) := by
  unfold dEq dEqB
  have h : min (PyData.depth (.list l)) (PyData.depth (.list [])) ≤ 60 := Nat.le_trans (Nat.min_le_right _ _) (by decide)
  rw [if_pos ⟨h, by simpa [PyData.plain] using hp, rfl⟩]
  cases l <;> rfl
theorem lt_rank {a b : Int} {x y : Str} : dLt (.tuple [.int a, .str x]) (.tuple [.int b, .str y]) = some (.bool (decide (a < b ∨ a = b ∧ ts x < ts y))) := by
  have e : dLt (.tuple [.int a, .str x]) (.tuple [.int b, .str y]) = some (.bool (PySem.W.dataLt (.tuple [.int a, .str x]) (.tuple [.int b, .str y]))) := rfl
  rw [e, PySem.W.dataLt_pair rfl rfl, PySem.W.dataLt_int, PySem.W.dataLt_str]
  have e2 : PyData.eqv (.int a) (.int b) = (a == b) := rfl
  have e3 : PyData.eqv (.str x) (.str y) = (x == y) := rfl
  rw [e2, e3]
  by_cases h : a = b
  · subst h
    by_cases h2 : x = y
    · subst h2
      have : ¬ (ts x < ts x) := fun h => List.lt_irrefl _ h
      simp [this]
    · simp [h2, ts]
  · simp [h]
end L2.Pv

set_option Elab.async false
set_option linter.all false
set_option maxRecDepth 100000
namespace L2.Pv
open PySem PySem.Spec PyProof.Rows L2
/-! ### a for over a list of the store that stays as it is -/
theorem Sat_ob_at {tg : Tg} {b : SS} {n : Nat} {ds : List PyData} {Q : Fl → Sto → Prop} (I : List PyData → Env → Sto → Prop)
    (hS : ∀ rest Γ S, I rest Γ S → lstOf S n = some ds)
    (step : ∀ d rest Γ S, d ∈ ds → I (d :: rest) Γ S → ∃ Γ2, tg d Γ = some Γ2 ∧ (b Γ2 S).Sat fun fl S' => match fl with
      | .nx Γ' => I rest Γ' S'
      | .ct Γ' => I rest Γ' S'
      | .bk Γ' => Q (.nx Γ') S'
      | .rt v => Q (.rt v) S')
    (done : ∀ Γ S, I [] Γ S → Q (.nx Γ) S) : ∀ (m i : Nat) (Γ : Env) (S : Sto), i ≤ ds.length → ds.length - i < m → I (ds.drop i) Γ S → (floop tg b (.ob n) m i Γ S).Sat Q
  | 0, i, Γ, S, h0, h1, h2 => absurd h1 (Nat.not_lt_zero _)
  | m + 1, i, Γ, S, h0, h1, h2 => by
    unfold floop
    have hs := hS _ _ _ h2
    by_cases hi : i < ds.length
    · rw [List.drop_eq_getElem_cons hi] at h2
      obtain ⟨Γ2, e1, e2⟩ := step _ _ _ _ (List.getElem_mem hi) h2
      simp only [nxt, hs, mapO_some, List.getElem?_eq_getElem hi, e1]
      refine e2.bind fun fl S' h => ?_
      cases fl with
      | nx Γ' => exact Sat_ob_at I hS step done m (i + 1) Γ' S' hi (by omega) h
      | ct Γ' => exact Sat_ob_at I hS step done m (i + 1) Γ' S' hi (by omega) h
      | bk Γ' => exact h
      | rt v => exact h
    · have e : i = ds.length := by omega
      subst e
      rw [List.drop_length] at h2
      simp only [nxt, hs, mapO_some, List.getElem?_eq_none (Nat.le_refl _)]
      exact done _ _ h2
theorem Sat_forOb {α β : Type} {tg : Tg} {b : SS} {S : Sto} {Γ : Env} {n : Nat} {all : List α} {f : Fl → Sto → R β} {Q : β → Sto → Prop} (g : α → PyData) (I : List α → Env → Sto → Prop) (hl : all.length < 1000000) (h0 : I all Γ S) (hS : ∀ rest Γ S, I rest Γ S → lstOf S n = some (all.map g))
    (step : ∀ d rest Γ S, d ∈ all → I (d :: rest) Γ S → ∃ Γ2, tg (g d) Γ = some Γ2 ∧ (b Γ2 S).Sat fun fl S' => match fl with
      | .nx Γ' => I rest Γ' S'
      | .ct Γ' => I rest Γ' S'
      | .bk Γ' => (f (.nx Γ') S').Sat Q
      | .rt v => (f (.rt v) S').Sat Q)
    (k : ∀ Γ S, I [] Γ S → (f (.nx Γ) S).Sat Q) : ((floop tg b (.ob n) (fuelOf (.ob n)) 0 Γ S).bind f).Sat Q := by
  rw [Sat_bind]
  refine Sat_ob_at (ds := all.map g) (fun ds Γ S => ∃ rest : List α, ds = rest.map g ∧ (∀ x ∈ rest, x ∈ all) ∧ I rest Γ S) ?_ ?_ ?_ _ 0 Γ S (Nat.zero_le _) ?_ ⟨all, rfl, fun _ h => h, h0⟩
  · rintro ds Γ S ⟨rest, e, hm, hI⟩
    exact hS _ _ _ hI
  · rintro d ds Γ S _ ⟨rest, e, hm, hI⟩
    cases rest with
    | nil => cases e
    | cons x rest =>
      rw [List.map_cons] at e
      obtain ⟨e1, e2⟩ := List.cons.inj e
      subst e1 e2
      obtain ⟨Γ2, h1, h2⟩ := step x rest Γ S (hm x List.mem_cons_self) hI
      refine ⟨Γ2, h1, h2.mono fun fl S' h => ?_⟩
      cases fl with
      | nx Γ' => exact ⟨rest, rfl, fun y hy => hm y (List.mem_cons_of_mem _ hy), h⟩
      | ct Γ' => exact ⟨rest, rfl, fun y hy => hm y (List.mem_cons_of_mem _ hy), h⟩
      | bk Γ' => exact h
      | rt v => exact h
  · rintro Γ S ⟨rest, e, hm, hI⟩
    cases rest with
    | nil => exact k Γ S hI
    | cons x rest => cases e
  · show (all.map g).length - 0 < 1000000
    rw [List.length_map]
    omega
theorem Sat_forObC {α β : Type} {tg : Tg} {b : SS} {S : Sto} {Γ : Env} {n : Nat} {all : List α} {f : Fl → Sto → R β} {Q : β → Sto → Prop} (g : α → PyData) (I : List α → Env → Sto → Prop) (hl : all.length < 1000000) (h0 : I all Γ S) (hS : ∀ rest Γ S, I rest Γ S → lstOf S n = some (all.map g))
    (step : ∀ d rest Γ S, d ∈ all → I (d :: rest) Γ S → ∃ Γ2, tg (g d) Γ = some Γ2 ∧ (b Γ2 S).Sat (On (I rest)))
    (k : ∀ Γ S, I [] Γ S → (f (.nx Γ) S).Sat Q) : ((floop tg b (.ob n) (fuelOf (.ob n)) 0 Γ S).bind f).Sat Q :=
  Sat_forOb g I hl h0 hS (fun d rest Γ S hd hI => by
    obtain ⟨Γ2, e, h⟩ := step d rest Γ S hd hI
    refine ⟨Γ2, e, h.mono fun fl S' h => ?_⟩
    cases fl with
    | nx Γ' => exact h
    | ct Γ' => exact h
    | bk Γ' => exact h.elim
    | rt v => exact h.elim) k
theorem lst_ownJ {S1 L : Sto} {n j : Nat} (h : S1.length = n) : lstOf (S1 ++ L) (n + j) = lstOf L j := by
  subst h
  unfold lstOf
  rw [List.getElem?_append_right (by omega), Nat.add_sub_cancel_left]
theorem lst_own0 {S1 L : Sto} {n : Nat} (h : S1.length = n) : lstOf (S1 ++ L) n = lstOf L 0 := lst_ownJ (j := 0) h
theorem set_ownJ {S1 L : Sto} {n j : Nat} {o : Ob} (h : S1.length = n) : (S1 ++ L).set (n + j) o = S1 ++ L.set j o := by
  subst h
  rw [List.set_append_right _ _ (by omega), Nat.add_sub_cancel_left]
theorem set_own0 {S1 L : Sto} {n : Nat} {o : Ob} (h : S1.length = n) : (S1 ++ L).set n o = S1 ++ L.set 0 o := set_ownJ (j := 0) h
theorem e_append {n : Nat} {d : PyData} {S : Sto} {ws : List PyData} (h : lstOf S n = some ws) (hl : ws.length < SZ) : gAppend (.o n) [.d d] S = .ok (.d .none) (S.set n (.lst (ws ++ [d]))) := by
  show (match lstOf S n with
    | some ds => if ds.length < SZ then R.ok (Vl.d .none) (S.set n (.lst (ds ++ [d]))) else R.bad
    | none => R.bad) = _
  rw [h]
  show (if ws.length < SZ then _ else _) = _
  rw [if_pos hl]
theorem e_pop1 {n : Nat} {i : Int} {S : Sto} {ws : List PyData} (h : lstOf S n = some ws) (hl : ws.length ≤ SZ) (h0 : 0 ≤ i) (h1 : i < ws.length) : gPop1 (.o n) [.d (.int i)] S = .ok (.d (ws[i.toNat]'(by omega))) (S.set n (.lst (ws.eraseIdx i.toNat))) := by
  have hx : ixN ws.length i = some i.toNat := by
    unfold ixN
    rw [if_pos h0, if_pos h1]
  have e : gPop (.o n) [.d (.int i)] S = (match lstOf S n with
    | some ds => (match ixN ds.length i with
      | some j => match ds[j]? with
        | some d => R.ok (Vl.d d) (S.set n (.lst (ds.eraseIdx j)))
        | none => R.bad
      | none => R.bad)
    | none => R.bad) := rfl
  show (match lstOf S n with
    | some ds => if ds.length ≤ SZ ∧ [Vl.d (.int i)].length = 1 then gPop (.o n) [.d (.int i)] S else R.bad
    | none => R.bad) = _
  rw [h]
  show (if ws.length ≤ SZ ∧ [Vl.d (.int i)].length = 1 then gPop (.o n) [.d (.int i)] S else R.bad) = _
  rw [if_pos ⟨hl, rfl⟩, e, h]
  simp only [hx, List.getElem?_eq_getElem (show i.toNat < ws.length by omega)]
theorem cloop_filtO {α : Type} {tg : Tg} {tst : ST} {elt : SE} {Γ : Env} {S : Sto} {n : Nat} {g : α → PyData} {p : α → Bool} {f : α → PyData} {all : List α} (hS : lstOf S n = some (all.map g)) : ∀ (m i : Nat), i ≤ all.length → all.length - i < m →
    (∀ d ∈ all, ∃ Γ2, tg (g d) Γ = some Γ2 ∧ tst Γ2 S = .ok (p d) S ∧ (p d = true → elt Γ2 S = .ok (.d (f d)) S)) →
    cloop tg tst elt Γ (.ob n) m i S = .ok (((all.drop i).filter p).map f) S
  | 0, i, h0, h1, h => absurd h1 (Nat.not_lt_zero _)
  | m + 1, i, h0, h1, h => by
    unfold cloop
    by_cases hi : i < all.length
    · obtain ⟨Γ2, e1, e2, e3⟩ := h all[i] (List.getElem_mem hi)
      rw [List.drop_eq_getElem_cons hi, List.filter_cons]
      cases hp : p all[i] with
      | true =>
        simp only [nxt, hS, List.getElem?_map, List.getElem?_eq_getElem hi, mapO_some, e1, e2, hp, e3 hp, R.bindB, cloop_filtO hS m (i + 1) hi (by omega) h]
        rfl
      | false =>
        simp only [nxt, hS, List.getElem?_map, List.getElem?_eq_getElem hi, mapO_some, e1, e2, hp, R.bindB, cloop_filtO hS m (i + 1) hi (by omega) h]
        rfl
    · have e : i = all.length := by omega
      subst e
      simp only [nxt, hS, List.getElem?_map, mapO_some, mapO_none, List.getElem?_eq_none (Nat.le_refl _), List.drop_length, List.map_nil, List.filter_nil]
theorem comp_filtO {α : Type} {tg : Tg} {tst : ST} {elt : SE} {Γ : Env} {S : Sto} {n : Nat} {all : List α} (g : α → PyData) (p : α → Bool) (f : α → PyData) (hS : lstOf S n = some (all.map g)) (hl : all.length < 1000000) (h : ∀ d ∈ all, ∃ Γ2, tg (g d) Γ = some Γ2 ∧ tst Γ2 S = .ok (p d) S ∧ (p d = true → elt Γ2 S = .ok (.d (f d)) S)) :
    cloop tg tst elt Γ (.ob n) (fuelOf (.ob n)) 0 S = .ok ((all.filter p).map f) S := cloop_filtO hS _ 0 (Nat.zero_le _) (show _ < 1000000 by omega) h
theorem comp_mapO {α : Type} {tg : Tg} {elt : SE} {Γ : Env} {S : Sto} {n : Nat} {all : List α} (g : α → PyData) (f : α → PyData) (hS : lstOf S n = some (all.map g)) (hl : all.length < 1000000) (h : ∀ d ∈ all, ∃ Γ2, tg (g d) Γ = some Γ2 ∧ elt Γ2 S = .ok (.d (f d)) S) :
    cloop tg sYes elt Γ (.ob n) (fuelOf (.ob n)) 0 S = .ok (all.map f) S := by
  have e := comp_filtO (tst := sYes) g (fun _ => true) f hS hl fun d hd => by
    obtain ⟨Γ2, e1, e2⟩ := h d hd
    exact ⟨Γ2, e1, rfl, fun _ => e2⟩
  rw [e, List.filter_eq_self.mpr fun _ _ => rfl]
theorem lst_appL {S L : Sto} {n : Nat} {ds : List PyData} (h : lstOf S n = some ds) : lstOf (S ++ L) n = some ds := by
  have hl := lst_lt h
  unfold lstOf at h ⊢
  rw [List.getElem?_append_left hl]
  exact h
theorem ob_fuel {n : Nat} : decide (fuelOf (.ob n) ≤ SZ) = true := decide_eq_true (show 1000000 ≤ 16777216 by decide)
theorem Kp.lst {t n : Nat} {S S' : Sto} {ds : List PyData} (h : Kp t S S') (hn : n ≠ t) (e : lstOf S n = some ds) : lstOf S' n = some ds := by
  unfold lstOf at e ⊢
  rw [h.eq n hn]
  exact e
theorem l_srcO {S : Sto} {n : Nat} {ds : List PyData} (h : lstOf S n = some ds) : srcOf S (.o n) = some (.ob n) := by
  show (lstOf S n).map (fun _ => Src.ob n) = _
  rw [h]
  rfl
/-- a body at its end: the same as the body and what is behind -/
theorem Sat_end_id {α : Type} {r : R α} {Q : α → Sto → Prop} (h : (r.bind fun a S => .ok a S).Sat Q) : r.Sat Q := by
  cases r with
  | ok a S => exact h
  | exc c fs S => exact h
  | bad => exact h
/-! ### membership -/
theorem eqv_str (a b : Str) : PyData.eqv (.str a) (.str b) = (a == b) := rfl
theorem any_strs (l : List Str) (c : Str) : (l.map PyData.str).any (fun z => PyData.eqv z (.str c)) = decide (c ∈ l) := by
  rw [List.any_map]
  induction l with
  | nil => simp
  | cons a r ih =>
    rw [List.any_cons, ih]
    show (PyData.eqv (.str a) (.str c) || decide (c ∈ r)) = _
    rw [eqv_str]
    by_cases h : a = c
    · subst h; simp
    · have h2 : ¬ c = a := fun e => h e.symm
      simp [h, h2]
theorem plain_map {α : Type} {f : α → PyData} (h : ∀ x, (f x).plain = true) : ∀ l : List α, PyData.plainAll (l.map f) = true
  | [] => rfl
  | a :: l => by
    rw [List.map_cons]
    simp only [PyData.plainAll, h, plain_map h l, Bool.and_self]
theorem plain_strs (l : List Str) : PyData.plainAll (l.map .str) = true := plain_map (fun _ => rfl) l
theorem in_strs (l : List Str) (c : Str) : dIn (.str c) (.list (l.map .str)) = some (.bool (decide (c ∈ l))) := by
  have h : min (PyData.depthAll (l.map .str)) (PyData.depth (.str c)) ≤ 60 := Nat.le_trans (Nat.min_le_right _ _) (show 0 ≤ 60 by decide)
  show obl (if min (PyData.depthAll (l.map .str)) (PyData.depth (.str c)) ≤ 60 ∧ PyData.plainAll (l.map .str) = true ∧ PyData.plain (.str c) = true then some ((l.map PyData.str).any fun z => PyData.eqv z (.str c)) else none) = _
  rw [if_pos ⟨h, plain_strs l, rfl⟩, any_strs]
  rfl
theorem nin_strs (l : List Str) (c : Str) : dNotIn (.str c) (.list (l.map .str)) = some (.bool (!decide (c ∈ l))) := by
  have h : min (PyData.depthAll (l.map .str)) (PyData.depth (.str c)) ≤ 60 := Nat.le_trans (Nat.min_le_right _ _) (show 0 ≤ 60 by decide)
  show obl (onot (if min (PyData.depthAll (l.map .str)) (PyData.depth (.str c)) ≤ 60 ∧ PyData.plainAll (l.map .str) = true ∧ PyData.plain (.str c) = true then some ((l.map PyData.str).any fun z => PyData.eqv z (.str c)) else none)) = _
  rw [if_pos ⟨h, plain_strs l, rfl⟩, any_strs]
  rfl
/-- distinct ones among others are no more than these -/
theorem nodup_le {α : Type} [DecidableEq α] : ∀ {l m : List α}, l.Nodup → (∀ x ∈ l, x ∈ m) → l.length ≤ m.length
  | [], _, _, _ => Nat.zero_le _
  | a :: r, m, h, hs => by
    have h1 := List.nodup_cons.mp h
    have ha := hs a List.mem_cons_self
    have ih := nodup_le (l := r) (m := m.erase a) h1.2 fun x hx => (List.mem_erase_of_ne (fun e : x = a => h1.1 (by rw [← e]; exact hx))).mpr (hs x (List.mem_cons_of_mem _ hx))
    rw [List.length_erase_of_mem ha] at ih
    have : 0 < m.length := List.length_pos_of_mem ha
    rw [List.length_cons]
    omega
/-! ### plain data is the same as itself -/
inductive Plain : PyData → Prop
  | non : Plain .none
  | bl (b : Bool) : Plain (.bool b)
  | int (i : Int) : Plain (.int i)
  | str (x : Str) : Plain (.str x)
  | tup (ds : List PyData) (h : ∀ d ∈ ds, Plain d) (hl : ds.length ≤ 900000) : Plain (.tuple ds)
theorem depth_mem {ds : List PyData} {d : PyData} (h : d ∈ ds) : d.depth ≤ PyData.depthAll ds := by
  induction ds with
  | nil => cases h
  | cons a r ih =>
    show _ ≤ max a.depth (PyData.depthAll r)
    rcases List.mem_cons.mp h with rfl | h
    · exact Nat.le_max_left _ _
    · exact Nat.le_trans (ih h) (Nat.le_max_right _ _)
theorem depth_all {ds : List PyData} {n : Nat} (h : ∀ d ∈ ds, d.depth ≤ n) : PyData.depthAll ds ≤ n := by
  induction ds with
  | nil => exact Nat.zero_le _
  | cons a r ih => exact Nat.max_le.mpr ⟨h a List.mem_cons_self, ih fun d hd => h d (List.mem_cons_of_mem _ hd)⟩
theorem atI_nat {α : Type} {ds : List α} {j : Nat} (h : j < ds.length) : atI ds (j : Int) = some ds[j] := by
  unfold atI ixN
  simp [h]
end L2.Pv

set_option Elab.async false
set_option linter.all false
set_option maxRecDepth 100000
namespace L2.Pv
open PySem PySem.Spec PyProof.Rows L2
/-! ### while -/
theorem Sat_wloop {c : ST} {b : SS} {Q : Fl → Sto → Prop} (I : Nat → Env → Sto → Prop)
    (step : ∀ m Γ S, I m Γ S → (c Γ S).Sat fun x S1 => match x with
      | true => (b Γ S1).Sat fun fl S2 => match fl with
        | .nx Γ' => ∃ m', m' < m ∧ I m' Γ' S2
        | .ct Γ' => ∃ m', m' < m ∧ I m' Γ' S2
        | .bk Γ' => Q (.nx Γ') S2
        | .rt v => Q (.rt v) S2
      | false => Q (.nx Γ) S1) : ∀ (n m : Nat) (Γ : Env) (S : Sto), m < n → I m Γ S → (wloop c b n Γ S).Sat Q
  | 0, m, Γ, S, h, _ => absurd h (Nat.not_lt_zero _)
  | n + 1, m, Γ, S, h, hI => by
    unfold wloop
    refine (step m Γ S hI).bind fun x S1 hx => ?_
    cases x with
    | false =>
      rw [if_neg Bool.false_ne_true]
      exact hx
    | true =>
      rw [if_pos rfl]
      refine R.Sat.bind hx fun fl S2 h2 => ?_
      cases fl with
      | nx Γ' =>
        obtain ⟨m', h3, h4⟩ := h2
        exact Sat_wloop I step n m' Γ' S2 (by omega) h4
      | ct Γ' =>
        obtain ⟨m', h3, h4⟩ := h2
        exact Sat_wloop I step n m' Γ' S2 (by omega) h4
      | bk Γ' => exact h2
      | rt v => exact h2
theorem Sat_while {β : Type} {c : ST} {b : SS} {f : Fl → Sto → R β} {Q : β → Sto → Prop} {Γ : Env} {S : Sto} (I : Nat → Env → Sto → Prop) (m : Nat) (hm : m < 1000000) (h0 : I m Γ S)
    (step : ∀ m Γ S, I m Γ S → (c Γ S).Sat fun x S1 => match x with
      | true => (b Γ S1).Sat fun fl S2 => match fl with
        | .nx Γ' => ∃ m', m' < m ∧ I m' Γ' S2
        | .ct Γ' => ∃ m', m' < m ∧ I m' Γ' S2
        | .bk Γ' => (f (.nx Γ') S2).Sat Q
        | .rt v => (f (.rt v) S2).Sat Q
      | false => (f (.nx Γ) S1).Sat Q) : ((sWhile c b Γ S).bind f).Sat Q := by
  rw [Sat_bind]
  exact Sat_wloop I step _ m Γ S hm h0
/-! ### places of items -/
def pAt {α : Type} (P : α → Bool) (l : List α) (i : Nat) : Bool := match l[i]? with
  | some x => P x
  | none => false
theorem idx_first {α : Type} (P : α → Bool) : ∀ {l : List α}, l.any P = true → ∃ j r, (List.range l.length).filter (pAt P l) = j :: r ∧ j < l.length ∧ l.take j = l.takeWhile (fun x => !P x)
  | [], h => by cases h
  | a :: l, h => by
    rw [List.length_cons, List.range_succ_eq_map, List.filter_cons, List.filter_map]
    cases ha : P a with
    | true =>
      rw [if_pos (show pAt P (a :: l) 0 = true from ha)]
      exact ⟨0, _, rfl, Nat.succ_pos _, by rw [List.takeWhile_cons, if_neg (by rw [ha]; decide)]; rfl⟩
    | false =>
      rw [if_neg (by show ¬(P a = true); rw [ha]; decide)]
      have h2 : l.any P = true := by rw [List.any_cons, ha] at h; exact h
      obtain ⟨j, r, h3, h4, h5⟩ := idx_first P h2
      have e : (fun i => pAt P (a :: l) i) ∘ Nat.succ = pAt P l := rfl
      refine ⟨j + 1, r.map Nat.succ, ?_, by omega, ?_⟩
      · rw [show (pAt P (a :: l) ∘ Nat.succ) = pAt P l from rfl, h3]
        rfl
      · rw [List.takeWhile_cons, if_pos (by rw [ha]; rfl), List.take_succ_cons, h5]
theorem idx_last {α : Type} (P : α → Bool) (l : List α) : match l.foldl (fun f x => if P x = true then some x else f) none with
    | none => (List.range l.length).filter (pAt P l) = []
    | some x => ∃ j r, (List.range l.length).filter (pAt P l) = r ++ [j] ∧ l[j]? = some x := by
  have gen : ∀ (l2 l1 : List α) (o : Option α), (match o with
      | none => (List.range l1.length).filter (pAt P (l1 ++ l2)) = []
      | some x => ∃ j r, (List.range l1.length).filter (pAt P (l1 ++ l2)) = r ++ [j] ∧ (l1 ++ l2)[j]? = some x) →
      match l2.foldl (fun f x => if P x = true then some x else f) o with
      | none => (List.range (l1 ++ l2).length).filter (pAt P (l1 ++ l2)) = []
      | some x => ∃ j r, (List.range (l1 ++ l2).length).filter (pAt P (l1 ++ l2)) = r ++ [j] ∧ (l1 ++ l2)[j]? = some x := by
    intro l2
    induction l2 with
    | nil =>
      intro l1 o h
      rw [List.append_nil] at h ⊢
      exact h
    | cons a r ih =>
      intro l1 o h
      have e : l1 ++ a :: r = (l1 ++ [a]) ++ r := by simp
      rw [List.foldl_cons, e]
      refine ih (l1 ++ [a]) _ ?_
      rw [← e]
      have hp : pAt P (l1 ++ a :: r) l1.length = P a := by
        unfold pAt
        rw [List.getElem?_append_right (Nat.le_refl _), Nat.sub_self]
        rfl
      have hl : (l1 ++ [a]).length = l1.length + 1 := by simp
      rw [hl, List.range_succ, List.filter_append, List.filter_cons, List.filter_nil, hp]
      cases ha : P a with
      | true =>
        rw [if_pos rfl, if_pos rfl]
        exact ⟨l1.length, _, rfl, by rw [List.getElem?_append_right (Nat.le_refl _), Nat.sub_self]; rfl⟩
      | false =>
        rw [if_neg Bool.false_ne_true, if_neg Bool.false_ne_true]
        cases o with
        | none =>
          show _ ++ [] = []
          rw [List.append_nil]
          exact h
        | some x =>
          show ∃ j r_1, _ ++ [] = r_1 ++ [j] ∧ _
          rw [List.append_nil]
          exact h
  exact gen l [] none rfl
theorem atI_in {α : Type} {xs : List α} {i : Int} (h : 0 ≤ i) (h2 : i < xs.length) : ∃ x, atI xs i = some x ∧ x ∈ xs := by
  unfold atI ixN
  obtain ⟨j, rfl⟩ := Int.eq_ofNat_of_zero_le h
  have h3 : j < xs.length := by omega
  refine ⟨xs[j], ?_, List.getElem_mem h3⟩
  simp [h3]
theorem takeWhile_all {α : Type} {P : α → Bool} : ∀ {l : List α}, (∀ x ∈ l, P x = true) → l.takeWhile P = l
  | [], _ => rfl
  | a :: l, h => by
    rw [List.takeWhile_cons, if_pos (h a List.mem_cons_self), takeWhile_all fun x hx => h x (List.mem_cons_of_mem _ hx)]
/-! ### two clauses -/
theorem cloop2_pure {α : Type} {tg tg1 : Tg} {tst tst1 : ST} {it1 : SI} {elt : SE} {vs1 : List Nat} {Γ : Env} {S : Sto} {g : α → PyData} {r : α → List PyData} {all : List α} : ∀ (n i : Nat), i ≤ all.length → all.length - i < n →
    (∀ d ∈ all, ∃ Γ2 src1, tg (g d) Γ = some Γ2 ∧ tst Γ2 S = .ok true S ∧ it1 Γ2 S = .ok src1 S ∧ cloop tg1 tst1 elt (wipeE Γ2 vs1) src1 (fuelOf src1) 0 S = .ok (r d) S) →
    cloop2 tg tst it1 tg1 tst1 elt vs1 Γ (.its (all.map g)) n i S = .ok ((all.drop i).flatMap r) S
  | 0, i, h0, h1, h => absurd h1 (Nat.not_lt_zero _)
  | n + 1, i, h0, h1, h => by
    unfold cloop2
    by_cases hi : i < all.length
    · obtain ⟨Γ2, src1, e1, e2, e3, e4⟩ := h all[i] (List.getElem_mem hi)
      rw [List.drop_eq_getElem_cons hi, List.flatMap_cons]
      simp only [nxt, List.getElem?_map, List.getElem?_eq_getElem hi, mapO_some, e1, e2, e3, e4, R.bindB, cloop2_pure n (i + 1) hi (by omega) h]
      rfl
    · have e : i = all.length := by omega
      subst e
      simp only [nxt, List.getElem?_map, mapO_none, List.getElem?_eq_none (Nat.le_refl _), List.drop_length, List.flatMap_nil]
theorem comp2_pure {α : Type} {tg tg1 : Tg} {tst tst1 : ST} {it1 : SI} {elt : SE} {vs1 : List Nat} {Γ : Env} {S : Sto} {all : List α} (g : α → PyData) (r : α → List PyData)
    (h : ∀ d ∈ all, ∃ Γ2 src1, tg (g d) Γ = some Γ2 ∧ tst Γ2 S = .ok true S ∧ it1 Γ2 S = .ok src1 S ∧ cloop tg1 tst1 elt (wipeE Γ2 vs1) src1 (fuelOf src1) 0 S = .ok (r d) S) :
    cloop2 tg tst it1 tg1 tst1 elt vs1 Γ (.its (all.map g)) (fuelOf (.its (all.map g))) 0 S = .ok (all.flatMap r) S := by
  refine cloop2_pure _ 0 (Nat.zero_le _) ?_ h
  show _ < (all.map g).length + 1
  rw [List.length_map]
  omega
/-! ### a for over a list of the store from behind -/
theorem nxt_rv {S : Sto} {n i : Nat} {ds : List PyData} (h : lstOf S n = some ds) : nxt (.rv n ds.length) S i = some ds.reverse[i]? := by
  show nxtV (lstOf S n) ds.length i = _
  rw [h]
  show (if i < ds.length then (ds[ds.length - 1 - i]?).map some else some none) = _
  by_cases hi : i < ds.length
  · rw [if_pos hi, List.getElem?_reverse hi, List.getElem?_eq_getElem (by omega)]
    rfl
  · rw [if_neg hi, List.getElem?_eq_none (by rw [List.length_reverse]; omega)]
theorem floop_rv {tg : Tg} {b : SS} {n : Nat} {ds : List PyData} {Q : Fl → Sto → Prop} (I : List PyData → Env → Sto → Prop) (hS : ∀ rest Γ S, I rest Γ S → lstOf S n = some ds)
    (step : ∀ d rest Γ S, d ∈ ds → I (d :: rest) Γ S → ∃ Γ2, tg d Γ = some Γ2 ∧ (b Γ2 S).Sat fun fl S' => match fl with
      | .nx Γ' => I rest Γ' S'
      | .ct Γ' => I rest Γ' S'
      | .bk Γ' => Q (.nx Γ') S'
      | .rt v => Q (.rt v) S')
    (done : ∀ Γ S, I [] Γ S → Q (.nx Γ) S) : ∀ (m i : Nat) (Γ : Env) (S : Sto), i ≤ ds.length → ds.length - i < m → I (ds.reverse.drop i) Γ S → (floop tg b (.rv n ds.length) m i Γ S).Sat Q
  | 0, i, Γ, S, h0, h1, h2 => absurd h1 (Nat.not_lt_zero _)
  | m + 1, i, Γ, S, h0, h1, h2 => by
    unfold floop
    have hs := hS _ _ _ h2
    rw [nxt_rv hs]
    by_cases hi : i < ds.length
    · have hi2 : i < ds.reverse.length := by rw [List.length_reverse]; exact hi
      rw [List.drop_eq_getElem_cons hi2] at h2
      obtain ⟨Γ2, e1, e2⟩ := step _ _ _ _ (List.mem_reverse.mp (List.getElem_mem hi2)) h2
      simp only [List.getElem?_eq_getElem hi2, e1]
      refine e2.bind fun fl S' h => ?_
      cases fl with
      | nx Γ' => exact floop_rv I hS step done m (i + 1) Γ' S' hi (by omega) h
      | ct Γ' => exact floop_rv I hS step done m (i + 1) Γ' S' hi (by omega) h
      | bk Γ' => exact h
      | rt v => exact h
    · have e : i = ds.length := by omega
      subst e
      rw [List.drop_of_length_le (by rw [List.length_reverse]; exact Nat.le_refl _)] at h2
      simp only [List.getElem?_eq_none (show ds.reverse.length ≤ ds.length by rw [List.length_reverse]; exact Nat.le_refl _)]
      exact done _ _ h2
theorem Sat_forRv {α β : Type} {tg : Tg} {b : SS} {S : Sto} {Γ : Env} {n : Nat} {all : List α} {f : Fl → Sto → R β} {Q : β → Sto → Prop} {len : Nat} (g : α → PyData) (I : List α → Env → Sto → Prop) (hl : len = all.length) (h0 : I all.reverse Γ S) (hS : ∀ rest Γ S, I rest Γ S → lstOf S n = some (all.map g))
    (step : ∀ d rest Γ S, d ∈ all → I (d :: rest) Γ S → ∃ Γ2, tg (g d) Γ = some Γ2 ∧ (b Γ2 S).Sat fun fl S' => match fl with
      | .nx Γ' => I rest Γ' S'
      | .ct Γ' => I rest Γ' S'
      | .bk Γ' => (f (.nx Γ') S').Sat Q
      | .rt v => (f (.rt v) S').Sat Q)
    (k : ∀ Γ S, I [] Γ S → (f (.nx Γ) S).Sat Q) : ((floop tg b (.rv n len) (fuelOf (.rv n len)) 0 Γ S).bind f).Sat Q := by
  rw [Sat_bind]
  have hlen : len = (all.map g).length := by rw [List.length_map]; exact hl
  rw [hlen]
  refine floop_rv (ds := all.map g) (fun ds Γ S => ∃ rest : List α, ds = rest.map g ∧ (∀ x ∈ rest, x ∈ all) ∧ I rest Γ S) ?_ ?_ ?_ _ 0 Γ S (Nat.zero_le _) ?_ ⟨all.reverse, by rw [List.drop_zero, List.map_reverse], fun _ h => List.mem_reverse.mp h, h0⟩
  · rintro ds Γ S ⟨rest, e, hm, hI⟩
    exact hS _ _ _ hI
  · rintro d ds Γ S _ ⟨rest, e, hm, hI⟩
    cases rest with
    | nil => cases e
    | cons x rest =>
      rw [List.map_cons] at e
      obtain ⟨e1, e2⟩ := List.cons.inj e
      subst e1 e2
      obtain ⟨Γ2, h1, h2⟩ := step x rest Γ S (hm x List.mem_cons_self) hI
      refine ⟨Γ2, h1, h2.mono fun fl S' h => ?_⟩
      cases fl with
      | nx Γ' => exact ⟨rest, rfl, fun y hy => hm y (List.mem_cons_of_mem _ hy), h⟩
      | ct Γ' => exact ⟨rest, rfl, fun y hy => hm y (List.mem_cons_of_mem _ hy), h⟩
      | bk Γ' => exact h
      | rt v => exact h
  · rintro Γ S ⟨rest, e, hm, hI⟩
    cases rest with
    | nil => exact k Γ S hI
    | cons x rest => cases e
  · show (all.map g).length - 0 < (all.map g).length + 1
    omega
end L2.Pv

set_option Elab.async false
set_option linter.all false
set_option maxRecDepth 100000
namespace L2.Pv
open PySem PySem.Spec PyProof.Rows L2
/-! ### documents in plain: texts in rank order, scalars, contents, flats -/
theorem lex_tri : ∀ a b : List Nat, a < b ∨ a = b ∨ b < a
  | [], [] => .inr (.inl rfl)
  | [], _ :: _ => .inl (List.nil_lt_cons _ _)
  | _ :: _, [] => .inr (.inr (List.nil_lt_cons _ _))
  | x :: a, y :: b => by
    rw [List.cons_lt_cons_iff, List.cons_lt_cons_iff]
    rcases Nat.lt_trichotomy x y with h | h | h
    · exact .inl (.inl h)
    · subst h
      rcases lex_tri a b with h | h | h
      · exact .inl (.inr ⟨rfl, h⟩)
      · exact .inr (.inl (by rw [h]))
      · exact .inr (.inr (.inr ⟨rfl, h⟩))
    · exact .inr (.inr (.inl h))
/-- shorter ones first -/
def kLt (a b : Str) : Prop := a.length < b.length ∨ a.length = b.length ∧ ts a < ts b
instance (a b : Str) : Decidable (kLt a b) := by unfold kLt; infer_instance
theorem kLt_irr (a : Str) : ¬ kLt a a := fun h => h.elim (fun h => Nat.lt_irrefl _ h) fun h => List.lt_irrefl _ h.2
theorem kLt_tr {a b c : Str} (h : kLt a b) (h2 : kLt b c) : kLt a c := by
  rcases h with h | ⟨h, h'⟩
  · rcases h2 with h2 | ⟨h2, _⟩
    · exact .inl (by omega)
    · exact .inl (by omega)
  · rcases h2 with h2 | ⟨h2, h2'⟩
    · exact .inl (by omega)
    · exact .inr ⟨by omega, List.lt_trans h' h2'⟩
theorem kLt_tri (a b : Str) : kLt a b ∨ a = b ∨ kLt b a := by
  rcases Nat.lt_trichotomy a.length b.length with h | h | h
  · exact .inl (.inl h)
  · rcases lex_tri (ts a) (ts b) with h2 | h2 | h2
    · exact .inl (.inr ⟨h, h2⟩)
    · exact .inr (.inl (str_ext h2))
    · exact .inr (.inr (.inr ⟨h.symm, h2⟩))
  · exact .inr (.inr (.inl h))
theorem kLt_as {a b : Str} (h : kLt a b) : ¬ kLt b a := fun h2 => kLt_irr a (kLt_tr h h2)
/-- rows in strict order are told apart by what they hold -/
theorem strict_ext {α : Type} {r : α → α → Prop} (irr : ∀ a, ¬ r a a) (tr : ∀ a b c, r a b → r b c → r a c) : ∀ {l m : List α}, l.Pairwise r → m.Pairwise r → (∀ x, x ∈ l ↔ x ∈ m) → l = m
  | [], [], _, _, _ => rfl
  | [], b :: m, _, _, h => absurd ((h b).mpr List.mem_cons_self) (by simp)
  | a :: l, [], _, _, h => absurd ((h a).mp List.mem_cons_self) (by simp)
  | a :: l, b :: m, hl, hm, h => by
    have hl2 := List.pairwise_cons.mp hl
    have hm2 := List.pairwise_cons.mp hm
    have hab : a = b := by
      have h1 := (h a).mp List.mem_cons_self
      have h2 := (h b).mpr List.mem_cons_self
      rcases List.mem_cons.mp h1 with h1 | h1
      · exact h1
      · rcases List.mem_cons.mp h2 with h2 | h2
        · exact h2.symm
        · exact absurd (tr _ _ _ (hl2.1 b h2) (hm2.1 a h1)) (irr a)
    subst hab
    congr 1
    refine strict_ext irr tr hl2.2 hm2.2 fun x => ?_
    have hx := h x
    constructor
    · intro hx1
      rcases List.mem_cons.mp (hx.mp (List.mem_cons_of_mem _ hx1)) with rfl | h3
      · exact absurd (hl2.1 x hx1) (irr x)
      · exact h3
    · intro hx1
      rcases List.mem_cons.mp (hx.mpr (List.mem_cons_of_mem _ hx1)) with rfl | h3
      · exact absurd (hm2.1 x hx1) (irr x)
      · exact h3
def rkk (x : Str) : PyData := .tuple [.int x.length, .str x]
theorem lt_rkk (a b : Str) : PySem.W.dataLt (rkk a) (rkk b) = decide (kLt a b) := by
  have h : dLt (rkk a) (rkk b) = some (.bool (decide ((a.length : Int) < b.length ∨ (a.length : Int) = b.length ∧ ts a < ts b))) := lt_rank
  have h2 : dLt (rkk a) (rkk b) = some (.bool (PySem.W.dataLt (rkk a) (rkk b))) := rfl
  rw [h2] at h
  rw [PyData.bool.inj (Option.some.inj h)]
  refine decide_eq_decide.mpr ?_
  unfold kLt
  rw [Int.ofNat_lt, Int.ofNat_inj]
theorem dlt_rkk (a b : Str) : dLt (rkk a) (rkk b) = some (.bool (decide (kLt a b))) := by
  rw [← lt_rkk]
  rfl
/-- the keys in rank order -/
def sortK (l : List Str) : List Str := l.mergeSort fun a b => leD (rkk a) (rkk b)
theorem sortK_mem {l : List Str} {x : Str} : x ∈ sortK l ↔ x ∈ l := (List.mergeSort_perm l _).mem_iff
theorem sortK_len {l : List Str} : (sortK l).length = l.length := List.length_mergeSort _
theorem leD_rkk (a b : Str) : leD (rkk a) (rkk b) = !decide (kLt b a) := by unfold leD; rw [lt_rkk]
theorem sortK_pw {l : List Str} (h : l.Nodup) : (sortK l).Pairwise kLt := by
  have h1 : (sortK l).Pairwise fun a b => leD (rkk a) (rkk b) = true := List.pairwise_mergeSort (fun a b c h1 h2 => by
    rw [leD_rkk] at h1 h2 ⊢
    simp only [Bool.not_eq_true', decide_eq_false_iff_not] at h1 h2 ⊢
    intro h3
    rcases kLt_tri a b with h | h | h
    · exact h2 (kLt_tr h3 h)
    · subst h; exact h2 h3
    · exact h1 h) (fun a b => by
    rw [leD_rkk, leD_rkk]
    by_cases h : kLt a b
    · simp [kLt_as h]
    · simp [h]) l
  have h2 : (sortK l).Nodup := ((List.mergeSort_perm l _).nodup_iff).mpr h
  refine h1.imp₂ (fun a b h1 h2 => ?_) h2
  rw [leD_rkk] at h1
  simp only [Bool.not_eq_true', decide_eq_false_iff_not] at h1
  rcases kLt_tri a b with h | h | h
  · exact h
  · exact absurd h h2
  · exact absurd h h1
theorem sort_keysD {l : List Str} : ((l.map rkk).mergeSort leD) = (sortK l).map rkk := (List.map_mergeSort (f := rkk) (r := fun a b => leD (rkk a) (rkk b)) (s := leD) fun a _ b _ => rfl).symm

/-! ### scalars and contents -/
inductive Sc where
  | nul
  | fls
  | tru
  | num (i : Int)
  | txt (x : Str)
  deriving DecidableEq
def Sc.d : Sc → PyData
  | .nul => .tuple [.str "null"]
  | .fls => .tuple [.str "false"]
  | .tru => .tuple [.str "true"]
  | .num i => .tuple [.str "number", .int i]
  | .txt x => .tuple [.str "text", .str x]
theorem Sc.depth (s : Sc) : s.d.depth = 1 := by cases s <;> rfl
theorem Sc.pln (s : Sc) : s.d.plain = true := by cases s <;> rfl
theorem Sc.eqv (a b : Sc) : PyData.eqv a.d b.d = decide (a = b) := by
  cases a <;> cases b <;> first
    | rfl
    | (simp only [Sc.d, PyData.eqv, PyData.eqvAll]
       simp
       rfl)
theorem Sc.eq (a b : Sc) : dEq a.d b.d = some (.bool (decide (a = b))) := by
  unfold dEq dEqB
  rw [if_pos ⟨show min a.d.depth b.d.depth ≤ 60 by rw [Sc.depth]; exact Nat.le_trans (Nat.min_le_left _ _) (by decide), a.pln, b.pln⟩, Sc.eqv]
  rfl
theorem Sc.plain (s : Sc) : Plain s.d := by
  cases s <;> exact .tup _ (fun d hd => by
    simp only [List.mem_cons, List.mem_nil_iff, or_false] at hd
    first
      | (subst hd; constructor)
      | (rcases hd with rfl | rfl <;> constructor)) (by simp)
/-- drawn ones: not too large -/
def ScOk : Sc → Prop
  | .num i => -1000001000 ≤ i ∧ i ≤ 1000001000
  | .txt x => x.length ≤ 100
  | _ => True
inductive Ct where
  | rcd
  | sc (s : Sc)
  deriving DecidableEq
def RECD : PyData := .tuple [.str "record"]
def Ct.d : Ct → PyData
  | .rcd => RECD
  | .sc s => s.d
def CtOk : Ct → Prop
  | .rcd => True
  | .sc s => ScOk s
theorem Ct.depth (c : Ct) : c.d.depth = 1 := by
  cases c with
  | rcd => rfl
  | sc s => exact s.depth
theorem Ct.pln (c : Ct) : c.d.plain = true := by
  cases c with
  | rcd => rfl
  | sc s => exact s.pln
theorem Ct.plain (c : Ct) : Plain c.d := by
  cases c with
  | rcd => exact .tup _ (fun d hd => by simp only [List.mem_cons, List.mem_nil_iff, or_false] at hd; subst hd; constructor) (by simp)
  | sc s => exact s.plain
theorem Ct.eqv (a b : Ct) : PyData.eqv a.d b.d = decide (a = b) := by
  cases a with
  | rcd =>
    cases b with
    | rcd => rfl
    | sc s => cases s <;> rfl
  | sc s =>
    cases b with
    | rcd => cases s <;> rfl
    | sc t => exact (Sc.eqv s t).trans (by simp)
theorem Ct.eq (a b : Ct) : dEq a.d b.d = some (.bool (decide (a = b))) := by
  unfold dEq dEqB
  rw [if_pos ⟨show min a.d.depth b.d.depth ≤ 60 by rw [Ct.depth]; exact Nat.le_trans (Nat.min_le_left _ _) (by decide), a.pln, b.pln⟩, Ct.eqv]
  rfl
theorem Ct.ne (a b : Ct) : dNe a.d b.d = some (.bool (!decide (a = b))) := by
  unfold dNe dEqB
  rw [if_pos ⟨show min a.d.depth b.d.depth ≤ 60 by rw [Ct.depth]; exact Nat.le_trans (Nat.min_le_left _ _) (by decide), a.pln, b.pln⟩, Ct.eqv]
  rfl
theorem Ct.isn {neg : Bool} {c : Ct} {S : Sto} : gIsN neg (.d c.d) (.d .none) S = .ok (.d (.bool neg)) S := by
  cases c with
  | rcd => rfl
  | sc s => cases s <;> rfl

/-! ### paths as data -/
abbrev Pth := List Str
def PT (p : Pth) : PyData := .tuple (p.map .str)
theorem strs_pl (l : List Str) : PyData.plainAll (l.map .str) = true := plain_strs l
theorem pln_PT (p : Pth) : (PT p).plain = true := by
  show PyData.plainAll _ = true
  exact plain_strs p
theorem plain_PT {p : Pth} (h : p.length ≤ 1000) : Plain (PT p) := .tup _ (fun d hd => by
  obtain ⟨z, _, rfl⟩ := List.mem_map.mp hd
  exact .str z) (by rw [List.length_map]; omega)
theorem depth_strs (p : List Str) : PyData.depthAll (p.map .str) = 0 := by
  have := depth_all (ds := p.map PyData.str) (n := 0) fun d hd => by
    obtain ⟨z, _, rfl⟩ := List.mem_map.mp hd
    exact Nat.le_refl 0
  omega
theorem depth_PT (p : Pth) : (PT p).depth = 1 := by
  show PyData.depthAll (p.map .str) + 1 = 1
  rw [depth_strs]
theorem eqv_PT : ∀ a b : Pth, PyData.eqv (PT a) (PT b) = decide (a = b) := by
  have gen : ∀ a b : Pth, PyData.eqvAll (a.map .str) (b.map .str) = decide (a = b) := by
    intro a
    induction a with
    | nil =>
      intro b
      cases b with
      | nil => rfl
      | cons y b => rfl
    | cons x a ih =>
      intro b
      cases b with
      | nil => rfl
      | cons y b =>
        show (PyData.eqv (.str x) (.str y) && PyData.eqvAll (a.map .str) (b.map .str)) = _
        rw [eqv_str, ih b]
        by_cases h : x = y
        · subst h; simp
        · simp [h]
  intro a b
  exact gen a b
theorem eq_PT (a b : Pth) : dEq (PT a) (PT b) = some (.bool (decide (a = b))) := by
  unfold dEq dEqB
  rw [if_pos ⟨show min (PT a).depth (PT b).depth ≤ 60 by rw [depth_PT]; exact Nat.le_trans (Nat.min_le_left _ _) (by decide), pln_PT a, pln_PT b⟩, eqv_PT]
  rfl
theorem ne_PT (a b : Pth) : dNe (PT a) (PT b) = some (.bool (!decide (a = b))) := by
  unfold dNe dEqB
  rw [if_pos ⟨show min (PT a).depth (PT b).depth ≤ 60 by rw [depth_PT]; exact Nat.le_trans (Nat.min_le_left _ _) (by decide), pln_PT a, pln_PT b⟩, eqv_PT]
  rfl
theorem cut_PT {p : Pth} {lo hi : Option Int} {S : Sto} : gSl (.d (PT p)) lo hi S = .ok (.d (PT (cutD p lo hi))) S := by
  unfold PT
  rw [v_slT, cutD_map]
theorem len_PT {p : Pth} {S : Sto} : gLen (.d (PT p)) S = .ok (.d (.int p.length)) S := by
  unfold PT
  rw [v_lenT, List.length_map]
theorem cat_PT {p q : Pth} {S : Sto} (h : p.length + q.length ≤ 1000) : gAdd (.d (PT p)) (.d (PT q)) S = .ok (.d (PT (p ++ q))) S := by
  unfold PT
  rw [v_gAdd, v_addT, decide_eq_true (show (p.map PyData.str).length + (q.map PyData.str).length ≤ SZ by rw [List.length_map, List.length_map]; exact Nat.le_trans h (by decide)), pick_t, v_lft, List.map_append]
theorem nks_strs : ∀ l : List Str, nksOf (l.map .str) = some (l.map .text)
  | [] => rfl
  | a :: l => by
    show (match nkOf (.str a) with | some k => (nksOf (l.map .str)).map (k :: ·) | none => none) = _
    rw [nks_strs l]
    rfl
theorem nk_PT (p : Pth) : nkOf (PT p) = some (.tup (p.map .text)) := by
  show (nksOf (p.map .str)).map NestedKey.tup = _
  rw [nks_strs]
  rfl
theorem keq_PT (p q : Pth) : keq (PT p) (PT q) = decide (p = q) := by
  unfold keq
  rw [nk_PT, nk_PT]
  by_cases h : p = q
  · subst h; simp
  · rw [decide_eq_false h]
    refine decide_eq_false fun e => h ?_
    have e2 := NestedKey.tup.inj (Option.some.inj e)
    exact (List.map_inj_right fun a b h => NestedKey.text.inj h).mp e2
theorem depth_nk : ∀ l : List Str, NestedKey.depthAll (l.map .text) = 0
  | [] => rfl
  | a :: l => by
    show max (NestedKey.depth (.text a)) (NestedKey.depthAll (l.map .text)) = 0
    rw [depth_nk l]
    rfl
theorem keyB_PT (p : Pth) : keyB (PT p) = true := by
  show (match nkOf (PT p) with | some k => decide (k.depth ≤ 8) | none => false) = true
  rw [nk_PT]
  refine decide_eq_true ?_
  show NestedKey.depthAll (p.map .text) + 1 ≤ 8
  rw [depth_nk]
  decide
end L2.Pv

set_option Elab.async false
set_option linter.all false
set_option maxRecDepth 100000
namespace L2.Pv
open PySem PySem.Spec PyProof.Rows L2
/-! ### flats: paths to contents -/
abbrev Flat := List (Pth × Ct)
def kv (f : Flat) : Kvs := f.map fun e => (PT e.1, e.2.d)
def fget (f : Flat) (p : Pth) : Option Ct := (f.find? fun e => decide (e.1 = p)).map (·.2)
def fput (f : Flat) (p : Pth) (c : Ct) : Flat := if f.any (fun e => decide (e.1 = p)) = true then f.map (fun e => if decide (e.1 = p) = true then (e.1, c) else e) else f ++ [(p, c)]
theorem kv_len {f : Flat} : (kv f).length = f.length := List.length_map _
theorem kv_keys {f : Flat} : (kv f).map (·.1) = f.map fun e => PT e.1 := by unfold kv; rw [List.map_map]; rfl
theorem look_kv (f : Flat) (p : Pth) : dLook (kv f) (PT p) = (fget f p).map Ct.d := by
  unfold dLook kv fget
  rw [List.find?_map]
  have : ((fun q : PyData × PyData => keq q.1 (PT p)) ∘ fun e : Pth × Ct => (PT e.1, e.2.d)) = fun e => decide (e.1 = p) := by
    funext e
    exact keq_PT e.1 p
  rw [this, Option.map_map, Option.map_map]
  rfl
theorem put_kv (f : Flat) (p : Pth) (c : Ct) : dPut (kv f) (PT p) c.d = kv (fput f p c) := by
  have h1 : (kv f).any (fun q => keq q.1 (PT p)) = f.any fun e => decide (e.1 = p) := by
    unfold kv
    rw [List.any_map]
    congr 1
    funext e
    exact keq_PT e.1 p
  unfold dPut fput
  rw [h1]
  split
  · unfold kv
    rw [List.map_map, List.map_map]
    refine List.map_congr_left fun e _ => ?_
    show (if keq (PT e.1) (PT p) = true then (PT e.1, c.d) else (PT e.1, e.2.d)) = _
    rw [keq_PT]
    show _ = (PT (if decide (e.1 = p) = true then (e.1, c) else e).1, (if decide (e.1 = p) = true then (e.1, c) else e).2.d)
    by_cases h : decide (e.1 = p) = true
    · rw [if_pos h, if_pos h]
    · rw [if_neg h, if_neg h]
  · unfold kv
    rw [List.map_append]
    rfl
theorem kind_kv (f : Flat) (p : Pth) : kindB (kv f) (PT p) = true := by
  unfold kindB
  rw [keyB_PT, Bool.true_and]
  cases f <;> rfl
theorem fget_nil (p : Pth) : fget [] p = none := rfl
theorem fget_cons (e : Pth × Ct) (f : Flat) (p : Pth) : fget (e :: f) p = if e.1 = p then some e.2 else fget f p := by
  unfold fget
  rw [List.find?_cons]
  by_cases h : e.1 = p
  · rw [decide_eq_true h, if_pos h]; rfl
  · rw [decide_eq_false h, if_neg h]
theorem fget_app (f g : Flat) (p : Pth) : fget (f ++ g) p = (fget f p).or (fget g p) := by
  induction f with
  | nil => rfl
  | cons e f ih =>
    rw [List.cons_append, fget_cons, fget_cons, ih]
    split
    · rfl
    · rfl
theorem fget_some {f : Flat} {p : Pth} : (fget f p).isSome = true ↔ p ∈ f.map (·.1) := by
  induction f with
  | nil => simp [fget_nil]
  | cons e f ih =>
    rw [fget_cons, List.map_cons, List.mem_cons]
    by_cases h : e.1 = p
    · rw [if_pos h]
      exact ⟨fun _ => .inl h.symm, fun _ => rfl⟩
    · rw [if_neg h, ih]
      exact ⟨.inr, fun h2 => h2.elim (fun h2 => absurd h2.symm h) id⟩
theorem fget_none {f : Flat} {p : Pth} : fget f p = none ↔ p ∉ f.map (·.1) := by
  rw [← fget_some]
  cases fget f p <;> simp
theorem fget_mem {f : Flat} {p : Pth} {c : Ct} (h : fget f p = some c) : (p, c) ∈ f := by
  induction f with
  | nil => cases h
  | cons e f ih =>
    rw [fget_cons] at h
    split at h
    · rename_i h2
      obtain ⟨a, b⟩ := e
      cases h
      cases h2
      exact List.mem_cons_self
    · exact List.mem_cons_of_mem _ (ih h)
theorem mem_fget {f : Flat} {e : Pth × Ct} (hn : (f.map (·.1)).Nodup) (h : e ∈ f) : fget f e.1 = some e.2 := by
  induction f with
  | nil => cases h
  | cons a f ih =>
    rw [List.map_cons, List.nodup_cons] at hn
    rw [fget_cons]
    rcases List.mem_cons.mp h with rfl | h
    · rw [if_pos rfl]
    · rw [if_neg (fun z => hn.1 (by rw [z]; exact List.mem_map.mpr ⟨e, h, rfl⟩)), ih hn.2 h]
theorem fget_put (f : Flat) (p q : Pth) (c : Ct) : fget (fput f p c) q = if q = p then some c else fget f q := by
  unfold fput
  split
  · rename_i h
    induction f with
    | nil => cases h
    | cons e f ih =>
      rw [List.map_cons, fget_cons, fget_cons]
      by_cases he : e.1 = p
      · rw [if_pos (decide_eq_true he)]
        by_cases hq : q = p
        · rw [if_pos hq, if_pos (by show e.1 = q; rw [he, hq])]
        · rw [if_neg hq, if_neg (fun z => hq (by rw [← z]; exact he)), if_neg (fun z => hq (by rw [← z]; exact he))]
          by_cases hf : f.any (fun e => decide (e.1 = p)) = true
          · rw [ih hf, if_neg hq]
          · have : f.map (fun e => if decide (e.1 = p) = true then (e.1, c) else e) = f := by
              refine (List.map_congr_left fun x hx => ?_).trans (List.map_id f)
              have : ¬ decide (x.1 = p) = true := fun z => hf (List.any_eq_true.mpr ⟨x, hx, z⟩)
              rw [if_neg this]
              rfl
            rw [this]
      · have hd : ¬ decide (e.1 = p) = true := by simpa using he
        have hf : f.any (fun e => decide (e.1 = p)) = true := by
          rw [List.any_cons] at h
          simpa [he] using h
        rw [if_neg hd, ih hf]
        by_cases hq : q = p
        · rw [if_pos hq, if_pos hq, if_neg (fun z => he (by rw [z, hq]))]
        · rw [if_neg hq, if_neg hq]
  · rename_i h
    rw [fget_app, fget_cons, fget_nil]
    have hn : fget f p = none := fget_none.mpr fun hm => by
      obtain ⟨e, he, h2⟩ := List.mem_map.mp hm
      exact h (List.any_eq_true.mpr ⟨e, he, by simpa using h2⟩)
    by_cases hq : q = p
    · rw [if_pos hq, if_pos hq.symm, hq, hn]; rfl
    · rw [if_neg hq, if_neg (fun z => hq z.symm)]
      cases fget f q <;> rfl
theorem fput_keys {f : Flat} {p : Pth} {c : Ct} : (fput f p c).map (·.1) = if p ∈ f.map (·.1) then f.map (·.1) else f.map (·.1) ++ [p] := by
  have e : (f.any fun e => decide (e.1 = p)) = decide (p ∈ f.map (·.1)) := by
    rw [← Bool.coe_iff_coe, List.any_eq_true, decide_eq_true_eq, List.mem_map]
    exact ⟨fun ⟨x, h, h2⟩ => ⟨x, h, by simpa using h2⟩, fun ⟨x, h, h2⟩ => ⟨x, h, by simpa using h2⟩⟩
  unfold fput
  rw [e]
  by_cases h : p ∈ f.map (·.1)
  · rw [if_pos (decide_eq_true h), if_pos h, List.map_map]
    refine List.map_congr_left fun x _ => ?_
    show (if decide (x.1 = p) = true then (x.1, c) else x).1 = x.1
    split <;> rfl
  · rw [if_neg (by simpa using h), if_neg h, List.map_append]
    rfl
theorem fput_new {f : Flat} {p : Pth} {c : Ct} (h : p ∉ f.map (·.1)) : fput f p c = f ++ [(p, c)] := by
  unfold fput
  rw [if_neg fun z => ?_]
  obtain ⟨e, he, h2⟩ := List.any_eq_true.mp z
  exact h (List.mem_map.mpr ⟨e, he, by simpa using h2⟩)
theorem fput_nd {f : Flat} {p : Pth} {c : Ct} (h : (f.map (·.1)).Nodup) : ((fput f p c).map (·.1)).Nodup := by
  rw [fput_keys]
  split
  · exact h
  · rename_i hm
    rw [List.nodup_append]
    refine ⟨h, by simp, fun a ha b hb z => hm ?_⟩
    rw [List.mem_singleton.mp hb] at z
    rw [← z]
    exact ha
theorem fput_len {f : Flat} {p : Pth} {c : Ct} : (fput f p c).length ≤ f.length + 1 := by
  unfold fput
  split
  · rw [List.length_map]; omega
  · rw [List.length_append]; exact Nat.le_refl _
/-! ### what is under a path goes -/
def fcut (f : Flat) (p : Pth) : Flat := f.filter fun e => !decide (e.1.take p.length = p)
theorem fget_cut (f : Flat) (p q : Pth) : fget (fcut f p) q = if q.take p.length = p then none else fget f q := by
  unfold fcut
  induction f with
  | nil => simp [fget_nil]
  | cons e f ih =>
    rw [List.filter_cons]
    by_cases h : e.1.take p.length = p
    · rw [decide_eq_true h, if_neg (by simp), ih, fget_cons]
      by_cases hq : q.take p.length = p
      · rw [if_pos hq, if_pos hq]
      · rw [if_neg hq, if_neg hq, if_neg (fun z => hq (by rw [← z]; exact h))]
    · rw [decide_eq_false h, if_pos (by simp), fget_cons, ih, fget_cons]
      by_cases hq : q.take p.length = p
      · rw [if_pos hq, if_pos hq, if_neg (fun z => h (by rw [z]; exact hq))]
      · rw [if_neg hq, if_neg hq]
/-- the paths over p are records -/
def fpre (g : Flat) (p : Pth) (n : Nat) : Flat := (List.range' 1 n).foldl (fun g k => fput g (p.take k) .rcd) g
theorem fpre_zero (g : Flat) (p : Pth) : fpre g p 0 = g := rfl
theorem fpre_succ (g : Flat) (p : Pth) (n : Nat) : fpre g p (n + 1) = fput (fpre g p n) (p.take (n + 1)) .rcd := by
  unfold fpre
  rw [List.range'_1_concat, List.foldl_append, Nat.add_comm 1 n]
  rfl
theorem fget_pre (g : Flat) (p q : Pth) : ∀ n, n ≤ p.length → fget (fpre g p n) q = if 1 ≤ q.length ∧ q.length ≤ n ∧ p.take q.length = q then some .rcd else fget g q
  | 0, _ => by rw [fpre_zero, if_neg (by omega)]
  | n + 1, h => by
    rw [fpre_succ, fget_put, fget_pre g p q n (by omega)]
    by_cases h1 : q = p.take (n + 1)
    · have hl : q.length = n + 1 := by rw [h1, List.length_take]; omega
      rw [if_pos h1, if_pos ⟨by omega, by omega, by rw [hl]; exact h1.symm⟩]
    · rw [if_neg h1]
      by_cases h2 : 1 ≤ q.length ∧ q.length ≤ n ∧ p.take q.length = q
      · rw [if_pos h2, if_pos ⟨h2.1, by omega, h2.2.2⟩]
      · rw [if_neg h2, if_neg]
        rintro ⟨a, b, c⟩
        by_cases hl : q.length = n + 1
        · exact h1 (by rw [← hl]; exact c.symm)
        · exact h2 ⟨a, by omega, c⟩
theorem fpre_nd {g : Flat} {p : Pth} (h : (g.map (·.1)).Nodup) : ∀ n, ((fpre g p n).map (·.1)).Nodup
  | 0 => h
  | n + 1 => by rw [fpre_succ]; exact fput_nd (fpre_nd h n)
theorem fpre_len {g : Flat} {p : Pth} : ∀ n, (fpre g p n).length ≤ g.length + n
  | 0 => Nat.le_refl _
  | n + 1 => by
    rw [fpre_succ]
    have := fpre_len (g := g) (p := p) n
    exact Nat.le_trans fput_len (by omega)
def fset (f : Flat) (p : Pth) (c : Ct) : Flat := fput (fpre (fcut f p) p (p.length - 1)) p c
theorem fget_set (f : Flat) (p q : Pth) (c : Ct) : fget (fset f p c) q = if q = p then some c else if 1 ≤ q.length ∧ q.length < p.length ∧ p.take q.length = q then some .rcd else if q.take p.length = p then none else fget f q := by
  unfold fset
  rw [fget_put, fget_pre _ _ _ _ (by omega), fget_cut]
  by_cases h : q = p
  · rw [if_pos h, if_pos h]
  · rw [if_neg h, if_neg h]
    by_cases h2 : 1 ≤ q.length ∧ q.length < p.length ∧ p.take q.length = q
    · rw [if_pos h2, if_pos ⟨h2.1, by omega, h2.2.2⟩]
    · rw [if_neg h2, if_neg (fun z => h2 ⟨z.1, by omega, z.2.2⟩)]
theorem fcut_nd {f : Flat} {p : Pth} (h : (f.map (·.1)).Nodup) : ((fcut f p).map (·.1)).Nodup := by
  unfold fcut
  exact h.sublist (List.filter_sublist.map _)
theorem fcut_len {f : Flat} {p : Pth} : (fcut f p).length ≤ f.length := List.length_filter_le _ _
theorem fset_nd {f : Flat} {p : Pth} {c : Ct} (h : (f.map (·.1)).Nodup) : ((fset f p c).map (·.1)).Nodup := fput_nd (fpre_nd (fcut_nd h) _)
theorem fset_len {f : Flat} {p : Pth} {c : Ct} : (fset f p c).length ≤ f.length + p.length + 1 := by
  have h1 := fcut_len (f := f) (p := p)
  have h2 := fpre_len (g := fcut f p) (p := p) (p.length - 1)
  have h3 := fput_len (f := fpre (fcut f p) p (p.length - 1)) (p := p) (c := c)
  unfold fset
  omega
/-- a path that may be written -/
structure POk (p : Pth) : Prop where
  ne : p ≠ []
  le : p.length ≤ 5
  k : ∀ z ∈ p, z.length ≤ 100
structure FOk (f : Flat) : Prop where
  nd : (f.map (·.1)).Nodup
  p : ∀ e ∈ f, POk e.1
  c : ∀ e ∈ f, CtOk e.2
  pre : ∀ (p : Pth) (k : Str), p ≠ [] → (fget f (p ++ [k])).isSome = true → fget f p = some .rcd
theorem FOk.nil : FOk [] := ⟨List.nodup_nil, fun e h => absurd h (by simp), fun e h => absurd h (by simp), fun p k _ h => absurd h (by simp [fget_nil])⟩
theorem POk.take {p : Pth} (h : POk p) {n : Nat} (hn : 0 < n) : POk (p.take n) := ⟨fun z => by
  have := congrArg List.length z
  have h1 := List.length_pos_iff.mpr h.ne
  rw [List.length_take, List.length_nil] at this
  omega, by rw [List.length_take]; have := h.le; omega, fun z hz => h.k z (List.mem_of_mem_take hz)⟩
theorem fput_all {P : Pth × Ct → Prop} {f : Flat} {p : Pth} {c : Ct} (h : ∀ e ∈ f, P e) (hp : P (p, c)) : ∀ e ∈ fput f p c, P e := by
  intro e he
  unfold fput at he
  split at he
  · obtain ⟨x, hx, rfl⟩ := List.mem_map.mp he
    by_cases hd : x.1 = p
    · rw [if_pos (decide_eq_true hd), hd]
      exact hp
    · rw [if_neg (by simpa using hd)]
      exact h x hx
  · rcases List.mem_append.mp he with he | he
    · exact h e he
    · rw [List.mem_singleton.mp he]
      exact hp
theorem fpre_all {P : Pth × Ct → Prop} {g : Flat} {p : Pth} (h : ∀ e ∈ g, P e) (hp : ∀ n, 0 < n → P (p.take n, .rcd)) : ∀ n, ∀ e ∈ fpre g p n, P e
  | 0 => h
  | n + 1 => by rw [fpre_succ]; exact fput_all (fpre_all h hp n) (hp _ (by omega))
theorem fset_all {P : Pth × Ct → Prop} {f : Flat} {p : Pth} {c : Ct} (h : ∀ e ∈ f, P e) (hp : P (p, c)) (hn : ∀ n, 0 < n → P (p.take n, .rcd)) : ∀ e ∈ fset f p c, P e :=
  fput_all (fpre_all (fun e he => h e ((List.mem_filter.mp he).1)) hn _) hp
theorem take_app_ext {q : Pth} {k : Str} {p : Pth} (h : q.take p.length = p) : (q ++ [k]).take p.length = p := by
  have : p.length ≤ q.length := by
    have := congrArg List.length h
    rw [List.length_take] at this
    omega
  rw [List.take_append_of_le_length this, h]
theorem FOk.cut {f : Flat} {p : Pth} (h : FOk f) : FOk (fcut f p) where
  nd := fcut_nd h.nd
  p e he := h.p e ((List.mem_filter.mp he).1)
  c e he := h.c e ((List.mem_filter.mp he).1)
  pre q k hq hs := by
    rw [fget_cut] at hs ⊢
    by_cases h1 : (q ++ [k]).take p.length = p
    · rw [if_pos h1] at hs
      cases hs
    · rw [if_neg h1] at hs
      rw [if_neg (fun z => h1 (take_app_ext z))]
      exact h.pre q k hq hs
theorem FOk.set {f : Flat} {p : Pth} {c : Ct} (h : FOk f) (hp : POk p) (hc : CtOk c) : FOk (fset f p c) where
  nd := fset_nd h.nd
  p := fset_all (P := fun e => POk e.1) h.p hp fun n hn => hp.take hn
  c := fset_all (P := fun e => CtOk e.2) h.c hc fun n hn => trivial
  pre q k hq hs := by
    rw [fget_set] at hs ⊢
    have hql : 1 ≤ q.length := List.length_pos_iff.mpr hq
    have hl : (q ++ [k]).length = q.length + 1 := by simp
    have tk : ∀ n, n ≤ q.length → (q ++ [k]).take n = q.take n := fun n hn => List.take_append_of_le_length hn
    -- q below p strictly: a record
    by_cases h0 : 1 ≤ q.length ∧ q.length < p.length ∧ p.take q.length = q
    · rw [if_neg (fun z => by rw [z] at h0; omega), if_pos h0]
    · by_cases h1 : q ++ [k] = p
      · exfalso
        refine h0 ⟨hql, by rw [← h1, hl]; omega, by rw [← h1, tk _ (Nat.le_refl _), List.take_length]⟩
      · rw [if_neg h1] at hs
        by_cases h2 : 1 ≤ (q ++ [k]).length ∧ (q ++ [k]).length < p.length ∧ p.take (q ++ [k]).length = q ++ [k]
        · exfalso
          refine h0 ⟨hql, by omega, ?_⟩
          have := congrArg (List.take q.length) h2.2.2
          rw [List.take_take, tk _ (Nat.le_refl _), List.take_length, Nat.min_eq_left (by omega)] at this
          exact this
        · rw [if_neg h2] at hs
          by_cases h3 : (q ++ [k]).take p.length = p
          · rw [if_pos h3] at hs
            cases hs
          · rw [if_neg h3] at hs
            have h4 : ¬ q.take p.length = p := fun z => h3 (take_app_ext z)
            rw [if_neg (fun z => h4 (by rw [z, List.take_length])), if_neg h0, if_neg h4]
            exact h.pre q k hq hs
end L2.Pv

set_option Elab.async false
set_option linter.all false
set_option maxRecDepth 100000
namespace L2.Pv
open PySem PySem.Spec PyProof.Rows L2
/-! ### documents of flats -/
def lastK (p : Pth) : Str := p.getLastD ""
def keysAt (f : Flat) (q : Pth) : List Str := (f.filter fun e => decide (e.1.length = q.length + 1) && decide (e.1.take q.length = q)).map fun e => lastK e.1
def below (f : Flat) (q : Pth) : List Str := sortK (keysAt f q)
theorem split_last {p q : Pth} (h1 : p.length = q.length + 1) (h2 : p.take q.length = q) : p = q ++ [lastK p] := by
  have e : p = p.take q.length ++ p.drop q.length := (List.take_append_drop _ _).symm
  have hl : (p.drop q.length).length = 1 := by rw [List.length_drop]; omega
  obtain ⟨k, hk⟩ := List.length_eq_one_iff.mp hl
  rw [hk, h2] at e
  rw [e]
  unfold lastK
  congr 1
  simp [List.getLastD_eq_getLast?]
theorem keysAt_mem {f : Flat} {q : Pth} {k : Str} : k ∈ keysAt f q ↔ (fget f (q ++ [k])).isSome = true := by
  rw [fget_some]
  unfold keysAt
  rw [List.mem_map, List.mem_map]
  constructor
  · rintro ⟨e, he, rfl⟩
    have h := (List.mem_filter.mp he).2
    simp only [Bool.and_eq_true, decide_eq_true_eq] at h
    exact ⟨e, (List.mem_filter.mp he).1, split_last h.1 h.2⟩
  · rintro ⟨e, he, h⟩
    refine ⟨e, List.mem_filter.mpr ⟨he, ?_⟩, ?_⟩
    · rw [h]
      simp
    · rw [h]
      unfold lastK
      simp [List.getLastD_eq_getLast?]
theorem keysAt_nd {f : Flat} (h : (f.map (·.1)).Nodup) (q : Pth) : (keysAt f q).Nodup := by
  unfold keysAt List.Nodup
  rw [List.pairwise_map]
  have h2 : (f.filter fun e => decide (e.1.length = q.length + 1) && decide (e.1.take q.length = q)).Pairwise fun a b => a.1 ≠ b.1 := by
    have : f.Pairwise fun a b => a.1 ≠ b.1 := by
      have := h
      unfold List.Nodup at this
      rw [List.pairwise_map] at this
      exact this
    exact this.sublist List.filter_sublist
  refine h2.imp_of_mem fun {a b} ha hb hne he => hne ?_
  have h3 := (List.mem_filter.mp ha).2
  have h4 := (List.mem_filter.mp hb).2
  simp only [Bool.and_eq_true, decide_eq_true_eq] at h3 h4
  rw [split_last h3.1 h3.2, split_last h4.1 h4.2, he]
theorem below_mem {f : Flat} {q : Pth} {k : Str} : k ∈ below f q ↔ (fget f (q ++ [k])).isSome = true := by unfold below; rw [sortK_mem, keysAt_mem]
theorem below_pw {f : Flat} (h : (f.map (·.1)).Nodup) (q : Pth) : (below f q).Pairwise kLt := sortK_pw (keysAt_nd h q)
theorem below_ext {f g : Flat} {q r : Pth} (hf : (f.map (·.1)).Nodup) (hg : (g.map (·.1)).Nodup) (h : ∀ k, (fget f (q ++ [k])).isSome = (fget g (r ++ [k])).isSome) : below f q = below g r :=
  strict_ext kLt_irr (fun _ _ _ => kLt_tr) (below_pw hf q) (below_pw hg r) fun k => by rw [below_mem, below_mem, h]
theorem below_le {f : Flat} {q : Pth} : (below f q).length ≤ f.length := by
  unfold below keysAt
  rw [sortK_len, List.length_map]
  exact List.length_filter_le _ _
/-- fields as data -/
abbrev Rows := List (Str × PyData)
def fld (r : Str × PyData) : PyData := .tuple [.str r.1, r.2]
def FD (rs : Rows) : PyData := .tuple (rs.map fld)
def recD (d : PyData) : PyData := .tuple [.str "record", d]
def vdOf (o : Option Ct) (d : PyData) : PyData := match o with
  | some .rcd => recD d
  | some (.sc s) => s.d
  | none => .none
def docF : Nat → Flat → Pth → PyData
  | 0, _, _ => FD []
  | n + 1, f, q => FD ((below f q).map fun k => (k, vdOf (fget f (q ++ [k])) (docF n f (q ++ [k]))))
theorem below_end {f : Flat} {q : Pth} {L : Nat} (h : ∀ e ∈ f, e.1.length ≤ L) (hq : L ≤ q.length) : below f q = [] := by
  have : ∀ k, k ∉ below f q := fun k hk => by
    have h2 := fget_some.mp (below_mem.mp hk)
    obtain ⟨e, he, h3⟩ := List.mem_map.mp h2
    have := h e he
    rw [h3] at this
    simp at this
    omega
  cases hb : below f q with
  | nil => rfl
  | cons k r => exact absurd (by rw [hb]; exact List.mem_cons_self) (this k)
theorem docF_eq {f : Flat} {L : Nat} (h : ∀ e ∈ f, e.1.length ≤ L) : ∀ (n m : Nat) (q : Pth), L ≤ n + q.length → L ≤ m + q.length → docF n f q = docF m f q
  | 0, 0, q, _, _ => rfl
  | 0, m + 1, q, h1, _ => by
    unfold docF
    rw [below_end h (by omega)]
    rfl
  | n + 1, 0, q, _, h2 => by
    unfold docF
    rw [below_end h (by omega)]
    rfl
  | n + 1, m + 1, q, h1, h2 => by
    unfold docF
    congr 1
    refine List.map_congr_left fun k _ => ?_
    rw [docF_eq h n m (q ++ [k]) (by simp; omega) (by simp; omega)]
theorem docF_congr {f g : Flat} (hf : (f.map (·.1)).Nodup) (hg : (g.map (·.1)).Nodup) : ∀ (n : Nat) (q r : Pth), (∀ s, s ≠ [] → fget f (q ++ s) = fget g (r ++ s)) → docF n f q = docF n g r
  | 0, _, _, _ => rfl
  | n + 1, q, r, h => by
    unfold docF
    rw [below_ext hf hg fun k => by rw [h [k] (by simp)]]
    congr 1
    refine List.map_congr_left fun k _ => ?_
    rw [h [k] (by simp), docF_congr hf hg n (q ++ [k]) (r ++ [k]) fun s hs => by rw [List.append_assoc, List.append_assoc]; exact h _ (by simp)]
/-- the document of a flat at q -/
def doc (f : Flat) (q : Pth) : PyData := docF 5 f q
theorem FOk.len {f : Flat} (h : FOk f) : ∀ e ∈ f, e.1.length ≤ 5 := fun e he => (h.p e he).le
def docRows (f : Flat) (q : Pth) : Rows := (below f q).map fun k => (k, vdOf (fget f (q ++ [k])) (doc f (q ++ [k])))
theorem doc_rows {f : Flat} (h : FOk f) (q : Pth) : doc f q = FD (docRows f q) := by
  have e : doc f q = docF 6 f q := docF_eq h.len 5 6 q (by omega) (by omega)
  rw [e]
  rfl
theorem doc_congr {f g : Flat} {q r : Pth} (hf : FOk f) (hg : FOk g) (h : ∀ s, s ≠ [] → fget f (q ++ s) = fget g (r ++ s)) : doc f q = doc g r := docF_congr hf.nd hg.nd 5 q r h
theorem doc_fuel {f : Flat} (h : FOk f) {n : Nat} {q : Pth} (hn : 5 ≤ n + q.length) : docF n f q = doc f q := docF_eq h.len n 5 q hn (by omega)
/-- nothing under what is no record -/
theorem doc_none {f : Flat} (h : FOk f) {q : Pth} (hq : q ≠ []) (hr : fget f q ≠ some .rcd) : doc f q = FD [] := by
  have : below f q = [] := by
    cases hb : below f q with
    | nil => rfl
    | cons k r =>
      have := below_mem.mp (by rw [hb]; exact List.mem_cons_self : k ∈ below f q)
      exact absurd (h.pre q k hq this) hr
  rw [doc_rows h, docRows, this]
  rfl
/-! ### what a path leads to -/
/-- field_of -/
def fieldR (rs : Rows) (k : Str) : Option PyData := (rs.find? fun r => r.1 == k).map (·.2)
theorem fieldR_map {l : List Str} {v : Str → PyData} {k : Str} : fieldR (l.map fun x => (x, v x)) k = if k ∈ l then some (v k) else none := by
  unfold fieldR
  induction l with
  | nil => rfl
  | cons a l ih =>
    rw [List.map_cons, List.find?_cons]
    by_cases h : a = k
    · subst h
      simp
    · have : (a == k) = false := by simpa using h
      simp only [this]
      rw [ih]
      have : (k ∈ a :: l) ↔ k ∈ l := by
        rw [List.mem_cons]
        exact ⟨fun z => z.elim (fun z => absurd z.symm h) id, .inr⟩
      simp only [this]
theorem field_doc {f : Flat} (q : Pth) (k : Str) : fieldR (docRows f q) k = (fget f (q ++ [k])).map fun c => vdOf (some c) (doc f (q ++ [k])) := by
  unfold docRows
  rw [fieldR_map (v := fun k => vdOf (fget f (q ++ [k])) (doc f (q ++ [k])))]
  simp only [below_mem]
  cases fget f (q ++ [k]) <;> simp
/-- with_field -/
def wfR (rs : Rows) (k : Str) (v : PyData) : Rows := rs.filter (fun r => decide (kLt r.1 k)) ++ [(k, v)] ++ rs.filter fun r => decide (kLt k r.1)
theorem wf_keys {f g : Flat} {q : Pth} {k : Str} (hf : (f.map (·.1)).Nodup) (hg : (g.map (·.1)).Nodup) (hk : (fget g (q ++ [k])).isSome = true) (h : ∀ x, x ≠ k → (fget f (q ++ [x])).isSome = (fget g (q ++ [x])).isSome) :
    (below f q).filter (fun x => decide (kLt x k)) ++ [k] ++ (below f q).filter (fun x => decide (kLt k x)) = below g q := by
  refine strict_ext kLt_irr (fun _ _ _ => kLt_tr) ?_ (below_pw hg q) fun x => ?_
  · have hp := below_pw hf q
    rw [List.append_assoc, List.pairwise_append]
    refine ⟨hp.sublist List.filter_sublist, ?_, fun a ha b hb => ?_⟩
    · rw [List.singleton_append, List.pairwise_cons]
      exact ⟨fun b hb => by simpa using (List.mem_filter.mp hb).2, hp.sublist List.filter_sublist⟩
    · have h1 : kLt a k := by simpa using (List.mem_filter.mp ha).2
      rw [List.singleton_append] at hb
      rcases List.mem_cons.mp hb with rfl | hb
      · exact h1
      · exact kLt_tr h1 (by simpa using (List.mem_filter.mp hb).2)
  · simp only [List.mem_append, List.mem_filter, List.mem_singleton, decide_eq_true_eq]
    rw [below_mem, below_mem]
    by_cases hx : x = k
    · subst hx
      exact ⟨fun _ => hk, fun _ => .inl (.inr rfl)⟩
    · rw [h x hx]
      refine ⟨fun z => ?_, fun z => ?_⟩
      · rcases z with (z | z) | z
        · exact z.1
        · exact absurd z hx
        · exact z.1
      · rcases kLt_tri x k with h2 | h2 | h2
        · exact .inl (.inl ⟨z, h2⟩)
        · exact absurd h2 hx
        · exact .inr ⟨z, h2⟩
theorem wf_doc {f g : Flat} {q : Pth} {k : Str} (hf : FOk f) (hg : FOk g) {c : Ct} (hk : fget g (q ++ [k]) = some c) (h : ∀ x s, x ≠ k → fget f (q ++ x :: s) = fget g (q ++ x :: s)) :
    FD (wfR (docRows f q) k (vdOf (some c) (doc g (q ++ [k])))) = doc g q := by
  have hb := wf_keys (k := k) hf.nd hg.nd (by rw [hk]; rfl) fun x hx => by rw [h x [] hx]
  rw [doc_rows hg q]
  congr 1
  unfold docRows
  rw [← hb]
  unfold wfR
  rw [List.map_append, List.map_append, List.filter_map, List.filter_map]
  have cg : ∀ x, x ≠ k → (x, vdOf (fget f (q ++ [x])) (doc f (q ++ [x]))) = (x, vdOf (fget g (q ++ [x])) (doc g (q ++ [x]))) := fun x hx => by
    rw [h x [] hx, doc_congr hf hg (q := q ++ [x]) (r := q ++ [x]) fun s hs => by rw [List.append_assoc]; exact h x s hx]
  refine congr (congr rfl (congr (congr rfl (List.map_congr_left fun x hx => cg x ?_)) ?_)) (List.map_congr_left fun x hx => cg x ?_)
  · intro z
    subst z
    have : kLt x x := by simpa using (List.mem_filter.mp hx).2
    exact kLt_irr x this
  · rw [List.map_cons, List.map_nil, hk]
  · intro z
    subst z
    have : kLt x x := by simpa using (List.mem_filter.mp hx).2
    exact kLt_irr x this
/-- without_field -/
theorem wo_doc {f g : Flat} {q : Pth} {k : Str} (hf : FOk f) (hg : FOk g) (hk : fget g (q ++ [k]) = none) (h : ∀ x s, x ≠ k → fget f (q ++ x :: s) = fget g (q ++ x :: s)) :
    FD ((docRows f q).filter fun r => !(r.1 == k)) = doc g q := by
  have hb : (below f q).filter (fun x => !(x == k)) = below g q := by
    refine strict_ext kLt_irr (fun _ _ _ => kLt_tr) ((below_pw hf.nd q).sublist List.filter_sublist) (below_pw hg.nd q) fun x => ?_
    rw [List.mem_filter, below_mem, below_mem]
    by_cases hx : x = k
    · subst hx
      simp [hk]
    · rw [h x [] hx]
      simp [hx]
  rw [doc_rows hg q]
  congr 1
  unfold docRows
  rw [← hb, List.filter_map]
  refine List.map_congr_left fun x hx => ?_
  have hx : x ≠ k := by simpa using (List.mem_filter.mp hx).2
  rw [h x [] hx, doc_congr hf hg (q := q ++ [x]) (r := q ++ [x]) fun s hs => by rw [List.append_assoc]; exact h x s hx]
/-- what stands over something is a record -/
theorem FOk.up {f : Flat} (h : FOk f) : ∀ (n : Nat) (t u : Pth), t.length = n → t ≠ [] → u ≠ [] → (fget f (u ++ t)).isSome = true → fget f u = some .rcd
  | 0, t, u, hn, ht, _, _ => absurd (List.length_eq_zero_iff.mp hn) ht
  | n + 1, t, u, hn, ht, hu, hs => by
    rcases List.eq_nil_or_concat t with rfl | ⟨l, z, rfl⟩
    · exact absurd rfl ht
    · rw [List.concat_eq_append] at hs hn
      have h5 : fget f (u ++ l) = some .rcd := h.pre (u ++ l) z (by simp [hu]) (by rw [List.append_assoc]; exact hs)
      by_cases hl : l = []
      · subst hl
        rw [List.append_nil] at h5
        exact h5
      · exact FOk.up h n l u (by simpa using hn) hl hu (by rw [h5]; rfl)
end L2.Pv

set_option Elab.async false
set_option linter.all false
set_option maxRecDepth 100000
namespace L2.Pv
open PySem PySem.Spec PyProof.Rows L2
/-! ### raising, catching -/
theorem SatE_floop_at {tg : Tg} {b : SS} {all : List PyData} {Q : Fl → Sto → Prop} {E : Str → Fds → Sto → Prop} (I : List PyData → Env → Sto → Prop)
    (step : ∀ d rest Γ S, I (d :: rest) Γ S → ∃ Γ2, tg d Γ = some Γ2 ∧ (b Γ2 S).SatE (fun fl S' => match fl with
      | .nx Γ' => I rest Γ' S'
      | .ct Γ' => I rest Γ' S'
      | .bk Γ' => Q (.nx Γ') S'
      | .rt v => Q (.rt v) S') E)
    (done : ∀ Γ S, I [] Γ S → Q (.nx Γ) S) : ∀ (n i : Nat) (Γ : Env) (S : Sto), i ≤ all.length → all.length - i < n → I (all.drop i) Γ S → (floop tg b (.its all) n i Γ S).SatE Q E
  | 0, i, Γ, S, h0, h1, h2 => absurd h1 (Nat.not_lt_zero _)
  | n + 1, i, Γ, S, h0, h1, h2 => by
    unfold floop
    by_cases hi : i < all.length
    · rw [List.drop_eq_getElem_cons hi] at h2
      obtain ⟨Γ2, e1, e2⟩ := step _ _ _ _ h2
      simp only [nxt, List.getElem?_eq_getElem hi, e1]
      refine R.SatE.bind e2 (fun fl S' h => ?_) fun _ _ _ h => h
      cases fl with
      | nx Γ' => exact SatE_floop_at I step done n (i + 1) Γ' S' hi (by omega) h
      | ct Γ' => exact SatE_floop_at I step done n (i + 1) Γ' S' hi (by omega) h
      | bk Γ' => exact h
      | rt v => exact h
    · have e : i = all.length := by omega
      subst e
      rw [List.drop_length] at h2
      simp only [nxt, List.getElem?_eq_none (Nat.le_refl _)]
      exact done _ _ h2
/-- a for over items, the body may raise -/
theorem SatE_for {tg : Tg} {b : SS} {all : List PyData} {Q : Fl → Sto → Prop} {E : Str → Fds → Sto → Prop} {Γ : Env} {S : Sto} (I : List PyData → Env → Sto → Prop) (h0 : I all Γ S)
    (step : ∀ d rest Γ S, I (d :: rest) Γ S → ∃ Γ2, tg d Γ = some Γ2 ∧ (b Γ2 S).SatE (fun fl S' => match fl with
      | .nx Γ' => I rest Γ' S'
      | .ct Γ' => I rest Γ' S'
      | .bk Γ' => Q (.nx Γ') S'
      | .rt v => Q (.rt v) S') E)
    (done : ∀ Γ S, I [] Γ S → Q (.nx Γ) S) : (floop tg b (.its all) (fuelOf (.its all)) 0 Γ S).SatE Q E :=
  SatE_floop_at I step done _ 0 Γ S (Nat.zero_le _) (Nat.lt_succ_self _) h0
theorem R.SatE.exc {α : Type} {r : R α} {c : Str} {fs : Fds} {S : Sto} (h : r.SatE (fun _ _ => False) fun c' fs' S' => c' = c ∧ fs' = fs ∧ S' = S) : r = .exc c fs S := by
  cases r with
  | ok a S => exact h.elim
  | exc c fs S => obtain ⟨rfl, rfl, rfl⟩ := h; rfl
  | bad => exact h.elim
theorem R.SatE.eqOk {α : Type} {r : R α} {a : α} {S : Sto} {E : Str → Fds → Sto → Prop} (h : r.SatE (fun b S' => b = a ∧ S' = S) E) (hn : ∀ c fs S, ¬E c fs S) : r = .ok a S := by
  cases r with
  | ok b S' => obtain ⟨rfl, rfl⟩ := h; rfl
  | exc c fs S => exact absurd h (hn _ _ _)
  | bad => exact h.elim
theorem SatE_end_id {α : Type} {r : R α} {Q : α → Sto → Prop} {E : Str → Fds → Sto → Prop} (h : (r.bind fun a S => .ok a S).SatE Q E) : r.SatE Q E := by
  cases r with
  | ok a S => exact h
  | exc c fs S => exact h
  | bad => exact h
section
variable {Γ Γ1 : Env} {S S1 : Sto} {c : Str} {fs : Fds} {f : SE} {t : ST} {a b : SX} {v : Vl}
theorem x_raise {q : XC} {as : List SE} : sRaise c q as Γ S = (sArgs as Γ S).bind fun vs S1 => excR c q vs S1 := rfl
theorem xIte_ok {k : Bool} (h : t Γ S = .ok k S1) : xIte t a b Γ S = pick k (a Γ S1) (b Γ S1) := by unfold xIte; rw [h]; rfl
theorem xSeq_nx (h : a Γ S = .ok (.nx Γ1) S1) : xSeq a b Γ S = b Γ1 S1 := by unfold xSeq; rw [h]
theorem xSeq_exc (h : a Γ S = .exc c fs Γ1 S1) : xSeq a b Γ S = .exc c fs Γ1 S1 := by unfold xSeq; rw [h]
theorem xSeq_rt (h : a Γ S = .ok (.rt v) S1) : xSeq a b Γ S = .ok (.rt v) S1 := by unfold xSeq; rw [h]
theorem xDrop_ok (h : f Γ S = .ok v S1) : xDrop f Γ S = .ok (.nx Γ) S1 := by unfold xDrop sDrop; rw [h]; rfl
theorem xDrop_exc (h : f Γ S = .exc c fs S1) : xDrop f Γ S = .exc c fs Γ S1 := by unfold xDrop sDrop; rw [h]; rfl
theorem xRet_ok (h : f Γ S = .ok v S1) : xRet f Γ S = .ok (.rt v) S1 := by unfold xRet sRet; rw [h]; rfl
theorem xRet_exc (h : f Γ S = .exc c fs S1) : xRet f Γ S = .exc c fs Γ S1 := by unfold xRet sRet; rw [h]; rfl
theorem xSet_ok {i : Nat} (h : f Γ S = .ok v S1) : xSet i f Γ S = .ok (.nx (Γ.set i (some v))) S1 := by unfold xSet sSet; rw [h]; rfl
theorem xSet_exc {i : Nat} (h : f Γ S = .exc c fs S1) : xSet i f Γ S = .exc c fs Γ S1 := by unfold xSet sSet; rw [h]; rfl
theorem xSkip_e : xSkip Γ S = .ok (.nx Γ) S := rfl
theorem try_ok {xt : List (Str × XC)} {i : Option Nat} {hs : List (Str × SS)} {fl : Fl} (h : a Γ S = .ok fl S1) : sTry xt i a hs Γ S = .ok fl S1 := by unfold sTry; rw [h]
theorem try_exc {xt : List (Str × XC)} {i : Option Nat} {hs : List (Str × SS)} (h : a Γ S = .exc c fs Γ1 S1) : sTry xt i a hs Γ S = hands xt i c fs Γ1 S1 hs := by unfold sTry; rw [h]
theorem hands_as {xt : List (Str × XC)} {i : Nat} {T : Str} {s : SS} {r : List (Str × SS)} {q : XC} (hq : xt.lookup c = some q) (hb : isB c q T = true) : hands xt (some i) c fs Γ S ((T, s) :: r) = offS (some i) (s (Γ.set i (some (.x c fs))) S) := by
  unfold hands
  simp only [hq, hb, if_true]
  rfl
theorem hands_no {xt : List (Str × XC)} {T : Str} {s : SS} {r : List (Str × SS)} {q : XC} (hq : xt.lookup c = some q) (hb : isB c q T = true) : hands xt none c fs Γ S ((T, s) :: r) = offS none (s Γ S) := by
  unfold hands
  simp only [hq, hb, if_true]
  rfl
theorem v_isE {xt : List (Str × XC)} {T : Str} {q : XC} (hq : xt.lookup c = some q) : gIsE xt T (.x c fs) S = .ok (.d (.bool (isB c q T))) S := by
  unfold gIsE
  simp only [hq]
theorem v_fld {xt : List (Str × XC)} {T : Str} {q : XC} {d : PyData} (hq : xt.lookup c = some q) (hf : T ∈ q.fs) (hd : fs.lookup T = some d) : gFld xt T (.x c fs) S = .ok (.d d) S := by
  unfold gFld
  simp only [hq, hf, hd, if_true]
theorem v_countG {ds : List PyData} {d : PyData} (h : (PyData.plainAll ds && d.plain && decide (d.depth ≤ 60)) = true) : gCount (.d (.list ds)) [.d d] S = .ok (.d (.int (ds.countP fun y => PyData.eqv y d : Nat))) S := by
  unfold gCount
  simp only [lsV]
  rw [if_pos h]
theorem v_count {ds : List PyData} {bs : List Bool} (h : boolsOf ds = some bs) : gCount (.d (.list ds)) [.d (.bool true)] S = .ok (.d (.int (bs.count true : Nat))) S := by
  have e : ds = bs.map .bool := by
    induction ds generalizing bs with
    | nil => cases h; rfl
    | cons a r ih =>
      cases a with
      | bool b =>
        obtain ⟨l, h1, rfl⟩ := Option.map_eq_some_iff.mp (show (boolsOf r).map (b :: ·) = some bs from h)
        rw [ih h1]
        rfl
      | _ => cases h
  subst e
  have hp : PyData.plainAll (bs.map .bool) = true := plain_map (f := PyData.bool) (fun _ => rfl) bs
  rw [v_countG (by rw [hp]; rfl)]
  have hc : ((bs.map PyData.bool).countP fun y => PyData.eqv y (.bool true)) = bs.count true := by
    clear h hp
    induction bs with
    | nil => rfl
    | cons b bs ih =>
      rw [List.map_cons, List.countP_cons, ih, List.count_cons]
      cases b <;> rfl
  rw [hc]
theorem x_metL {g : Vl → GL} {o : SE} {as : List SE} : sMetL g o as Γ S = (o Γ S).bind fun x S1 => match lsV S1 x with
  | some _ => (sArgs as Γ S1).bind fun vs S2 => g x vs S2
  | none => .bad := rfl
theorem l_lsV {ds : List PyData} : lsV S (.d (.list ds)) = some ds := rfl
/-- what never raises where it is: ok -/
theorem R.SatE.ok {α : Type} {r : R α} {Q : α → Sto → Prop} (h : r.SatE Q fun _ _ _ => False) : r.Sat Q := by
  cases r with
  | ok a S => exact h
  | exc c fs S => exact h.elim
  | bad => exact h.elim
end
end L2.Pv

set_option Elab.async false
set_option linter.all false
set_option maxRecDepth 100000
namespace L2.Pv
open PySem PySem.Spec PyProof.Rows L2
/-! ### the defs of the text, what they mean (printed by gen.py) -/
def topS (i : Nat) : Stmt := PySem.Challenge.pw_hookcheck_k03_paths_are_read.main.body.getD i (.Pass ⟨0, 0, 0, 0⟩)
def XT : List (Str × XC) := []
def GH : List (Str × GE) := ("all", .blt .all) :: ("len", .blt .len) :: ("tuple", .blt .tuple) :: ("list", .blt .list) :: ("int", .blt .int) :: ("abs", .blt .abs) :: ("max", .blt .max) :: ("isinstance", .blt .isinstance) :: ("str", .blt .str) :: ("bool", .blt .bool) :: ("range", .blt .range) :: []
def G : List (Str × GE) := ("is_key", .fn 1) :: ("read_path", .fn 2) :: ("show_path", .fn 1) :: ("_law_tape", .fn 1) :: ("_law_draw", .fn 2) :: ("_law_pick", .fn 2) :: ("_law_same", .fn 2) :: ("_law_any_sign", .fn 1) :: ("_law_text", .fn 2) :: ("_law_reserved", .fn 0) :: ("_law_fresh", .fn 2) :: ("_law_key", .fn 2) :: ("_law_keys", .fn 2) :: ("_law_path", .fn 3) :: ("_law_is_key", .fn 1) :: ("_law_path_of", .fn 2) :: ("_law_spoilt", .fn 2) :: ("law", .fn 1) :: ("all", .blt .all) :: ("len", .blt .len) :: ("tuple", .blt .tuple) :: ("list", .blt .list) :: ("int", .blt .int) :: ("abs", .blt .abs) :: ("max", .blt .max) :: ("isinstance", .blt .isinstance) :: ("str", .blt .str) :: ("bool", .blt .bool) :: ("range", .blt .range) :: ("LETTERS", .con (.str "abcdefghijklmnopqrstuvwxyz")) :: ("KEY_SIGNS", .con (.str "-0123456789ABCDEFGHIJKLMNOPQRSTUVWXYZabcdefghijklmnopqrstuvwxyz")) :: ("MOST_KEY_SIGNS", .con (.int 16)) :: []
def b_is_key (call : Str → GL) : SS :=
  (sSeq (sIte (sOr (sTst (sBin (cmp2 dEq) (sVar 0) (sCon (.str "")))) (sOr (sTst (sBin (cmp2 dGt) (sCall (arg1 gLen) [(sVar 0)]) (sCon (.int 16)))) (sTst (sBin (cmp2 dNotIn) (sBin gIx (sVar 0) (sCon (.int 0))) (sCon (.str "abcdefghijklmnopqrstuvwxyz"))))))
  (sRet (sCon (.bool false)))
  sSkip)
  (sRet (sCall (arg1 gAll) [(sComp [1] (sIter (sVar 0)) (tNm 1) sYes (sBin (cmp2 dIn) (sVar 1) (sCon (.str "-0123456789ABCDEFGHIJKLMNOPQRSTUVWXYZabcdefghijklmnopqrstuvwxyz"))))])))
def b_read_path (call : Str → GL) : SS :=
  (sSeq (sSet 2 (sCall (arg1 gTuple) [(sMetS gSplit (sVar 0) [(sCon (.str "."))])]))
  (sSeq (sIte (sOr (sTst (sBin (cmp2 dGt) (sCall (arg1 gLen) [(sVar 2)]) (sVar 1))) (sNot (sTru (sCall (arg1 gAll) [(sComp [3] (sIter (sVar 2)) (tNm 3) sYes (sCall (call "is_key") [(sVar 3)]))]))))
  (sRet (sCon .none))
  sSkip)
  (sRet (sVar 2))))
def b_show_path (call : Str → GL) : SS :=
  (sRet (sMetS gJoin (sCon (.str ".")) [(sVar 0)]))
def b_law_tape (call : Str → GL) : SS :=
  (sSeq (sSet 1 (sCon (.int 7)))
  (sSeq (sFor (sIter (sVar 0)) (tNm 2)
  (sSet 1 (sBin (dat2 dMod) (sCall (arg1 (dat1 dInt)) [(sBin gAdd (sBin (dat2 dMul) (sVar 1) (sCon (.int 31))) (sCall (arg1 (dat1 dAbs)) [(sCall (arg1 (dat1 dInt)) [(sVar 2)])]))]) (sCon (.int 2147483647)))))
  (sRet (sCall gNew [(sCall (arg1 gList) [(sVar 0)]), (sCon (.int 0)), (sCon (.int 0)), (sVar 1)]))))
def b_law_draw (call : Str → GL) : SS :=
  (sSeq (sIte (sTst (sBin (cmp2 dEq) (sBin gIx (sVar 0) (sCon (.int 2))) (sCon (.int 0))))
  (sSeq (sSet 2 (sBin gIx (sVar 0) (sCon (.int 1))))
  (sSeq (sSet 3 (sCon (.int 0)))
  (sSeq (sIte (sTst (sBin (cmp2 dLt) (sVar 2) (sCall (arg1 gLen) [(sBin gIx (sVar 0) (sCon (.int 0)))])))
  (sSet 3 (sCall (arg1 (dat1 dAbs)) [(sCall (arg1 (dat1 dInt)) [(sBin gIx (sBin gIx (sVar 0) (sCon (.int 0))) (sVar 2))])]))
  (sSeq (sPut (sVar 0) (sCon (.int 3)) (sBin (dat2 dMod) (sCall (arg1 (dat1 dInt)) [(sBin gAdd (sBin gAdd (sBin (dat2 dMul) (sBin gIx (sVar 0) (sCon (.int 3))) (sCon (.int 48271))) (sVar 2)) (sCon (.int 1)))]) (sCon (.int 2147483647))))
  (sSet 3 (sBin gIx (sVar 0) (sCon (.int 3))))))
  (sSeq (sPut (sVar 0) (sCon (.int 1)) (sBin gAdd (sVar 2) (sCon (.int 1))))
  (sSeq (sIte (sTst (sBin (cmp2 dLt) (sVar 3) (sBin (dat2 dPow) (sCon (.int 10)) (sCon (.int 18)))))
  (sSeq (sSet 3 (sBin (dat2 dMod) (sCall (arg1 (dat1 dInt)) [(sBin gAdd (sBin gAdd (sBin (dat2 dMul) (sVar 3) (sCon (.int 48271))) (sBin (dat2 dMul) (sVar 2) (sCon (.int 69621)))) (sCon (.int 5)))]) (sCon (.int 2147483647))))
  (sSeq (sSet 3 (sBin (dat2 dMod) (sCall (arg1 (dat1 dInt)) [(sBin (dat2 dMul) (sVar 3) (sCon (.int 69621)))]) (sCon (.int 2147483629))))
  (sRet (sBin (dat2 dMod) (sCall (arg1 (dat1 dInt)) [(sVar 3)]) (sCall (arg2 (dat2 dMax)) [(sVar 1), (sCon (.int 1))])))))
  sSkip)
  (sPut (sVar 0) (sCon (.int 2)) (sVar 3)))))))
  sSkip)
  (sSeq (sSet 3 (sBin gIx (sVar 0) (sCon (.int 2))))
  (sSeq (sPut (sVar 0) (sCon (.int 2)) (sBin (dat2 dFdiv) (sVar 3) (sCall (arg2 (dat2 dMax)) [(sVar 1), (sCon (.int 2))])))
  (sRet (sBin (dat2 dMod) (sCall (arg1 (dat1 dInt)) [(sVar 3)]) (sCall (arg2 (dat2 dMax)) [(sVar 1), (sCon (.int 1))]))))))
def b_law_pick (call : Str → GL) : SS :=
  (sRet (sBin gIx (sVar 1) (sCall (call "_law_draw") [(sVar 0), (sCall (arg1 gLen) [(sVar 1)])])))
def b_law_same (call : Str → GL) : SS :=
  (sSeq (sIte (sTst (sBin (gIsN false) (sVar 1) (sCon .none)))
  (sRet (sBin (gIsN false) (sVar 0) (sCon .none)))
  sSkip)
  (sSeq (sIte (sTru (sUn (gIsi "tuple") (sVar 1)))
  (sSeq (sIte (sOr (sNot (sTru (sUn (gIsi "tuple") (sVar 0)))) (sTst (sBin (cmp2 dNe) (sCall (arg1 gLen) [(sVar 0)]) (sCall (arg1 gLen) [(sVar 1)]))))
  (sRet (sCon (.bool false)))
  sSkip)
  (sRet (sBin (cmp2 dEq) (sComp [2] (sRng1 (sCall (arg1 gLen) [(sVar 1)])) (tNm 2) (sNot (sTru (sCall (call "_law_same") [(sBin gIx (sVar 0) (sVar 2)), (sBin gIx (sVar 1) (sVar 2))]))) (sVar 2)) (sCall gLst []))))
  sSkip)
  (sSeq (sIte (sOr (sTru (sUn (gIsi "bool") (sVar 1))) (sTru (sUn (gIsi "bool") (sVar 0))))
  (sRet (sAndV (sUn (gIsi "bool") (sVar 1)) (sAndV (sUn (gIsi "bool") (sVar 0)) (sBin (cmp2 dEq) (sVar 0) (sVar 1)))))
  sSkip)
  (sSeq (sIte (sTru (sUn (gIsi "str") (sVar 1)))
  (sRet (sAndV (sUn (gIsi "str") (sVar 0)) (sBin (cmp2 dEq) (sVar 0) (sVar 1))))
  sSkip)
  (sRet (sAndV (sUn (gIsi "int") (sVar 0)) (sBin (cmp2 dEq) (sVar 0) (sVar 1))))))))
def b_law_any_sign (call : Str → GL) : SS :=
  (sSeq (sSet 1 (sCon (.str " !\"#$&'()*+,-./0123456789:;<=>?@ABCDEFGHIJKLMNOPQRSTUVWXYZ[\\]^_`")))
  (sRet (sCall (call "_law_pick") [(sVar 0), (sBin gAdd (sVar 1) (sCon (.str "abcdefghijklmnopqrstuvwxyz{|}~")))])))
def b_law_text (call : Str → GL) : SS :=
  (sRet (sMetS gJoin (sCon (.str "")) [(sComp [2] (sRng1 (sVar 1)) (tNm 2) sYes (sCall (call "_law_any_sign") [(sVar 0)]))]))
def b_law_reserved (call : Str → GL) : SS :=
  (sSeq (sSet 0 (sCall gLst [(sCon (.str "hook")), (sCon (.str "each")), (sCon (.str "when")), (sCon (.str "then")), (sCon (.str "and")), (sCon (.str "or")), (sCon (.str "not")), (sCon (.str "has")), (sCon (.str "set")), (sCon (.str "default")), (sCon (.str "from")), (sCon (.str "remove"))]))
  (sRet (sBin gAdd (sVar 0) (sCall gLst [(sCon (.str "reject")), (sCon (.str "true")), (sCon (.str "false"))]))))
def b_law_fresh (call : Str → GL) : SS :=
  (sSeq (sSet 2 (sBin gAdd (sVar 1) (sCall (call "_law_reserved") [])))
  (sSeq (sSet 3 (sBin gAdd (sCall gLst [(sVar 0)]) (sComp [4] (sRng1 (sBin gAdd (sCall (arg1 gLen) [(sVar 1)]) (sCon (.int 1)))) (tNm 4) sYes (sBin gAdd (sBin gAdd (sSl (sVar 0) none (some (sCon (.int 12)))) (sCon (.str "-"))) (sCall (arg1 (dat1 dStr)) [(sVar 4)])))))
  (sRet (sBin gIx (sComp [5] (sIter (sVar 3)) (tNm 5) (sTst (sBin (cmp2 dNotIn) (sVar 5) (sVar 2))) (sVar 5)) (sCon (.int 0))))))
def b_law_key (call : Str → GL) : SS :=
  (sSeq (sSet 2 (sCon (.str "abcdefghijklmnopqrstuvwxyz")))
  (sSeq (sSet 3 (sBin gAdd (sVar 2) (sCon (.str "ABCDEFGHIJKLMNOPQRSTUVWXYZ0123456789-"))))
  (sSeq (sSet 4 (sVar 1))
  (sSeq (sIte (sTst (sBin (cmp2 dEq) (sVar 1) (sCon (.str ""))))
  (sSet 4 (sCall (call "_law_pick") [(sVar 0), (sBin gIx (sCall gLst [(sVar 2), (sCon (.str "abcd"))]) (sCall (call "_law_draw") [(sVar 0), (sCon (.int 2))]))]))
  sSkip)
  (sSeq (sFor (sRng1 (sCall (call "_law_pick") [(sVar 0), (sCall gLst [(sCon (.int 0)), (sCon (.int 0)), (sCon (.int 0)), (sCon (.int 1)), (sCon (.int 2))])])) (tNm 5)
  (sSet 4 (sBin gAdd (sVar 4) (sCall (call "_law_pick") [(sVar 0), (sVar 3)]))))
  (sRet (sVar 4)))))))
def b_law_keys (call : Str → GL) : SS :=
  (sSeq (sSet 2 (sCall (call "_law_pick") [(sVar 0), (sCall gLst [(sCon (.str "")), (sCon (.str "")), (sCon (.str "")), (sCon (.str "")), (sCon (.str "x")), (sCon (.str "longBeginning-"))])]))
  (sSeq (sSet 3 (sCall gNew []))
  (sSeq (sFor (sRng1 (sVar 1)) (tNm 4)
  (sDrop (sMetO gAppend (sVar 3) [(sCall (call "_law_fresh") [(sCall (call "_law_key") [(sVar 0), (sVar 2)]), (sVar 3)])])))
  (sRet (sVar 3)))))
def b_law_path (call : Str → GL) : SS :=
  (sRet (sCall (arg1 gTuple) [(sComp [3] (sRng1 (sBin gAdd (sCon (.int 1)) (sCall (call "_law_draw") [(sVar 0), (sVar 2)]))) (tNm 3) sYes (sCall (call "_law_pick") [(sVar 0), (sVar 1)]))]))
def b_law_is_key (call : Str → GL) : SS :=
  (sSeq (sSet 1 (sCon (.str "abcdefghijklmnopqrstuvwxyz")))
  (sSeq (sIte (sOr (sTst (sBin (cmp2 dEq) (sVar 0) (sCon (.str "")))) (sOr (sTst (sBin (cmp2 dGt) (sCall (arg1 gLen) [(sVar 0)]) (sCon (.int 16)))) (sTst (sBin (cmp2 dNotIn) (sBin gIx (sVar 0) (sCon (.int 0))) (sVar 1)))))
  (sRet (sCon (.bool false)))
  sSkip)
  (sSeq (sFor (sIter (sVar 0)) (tNm 2)
  (sIte (sTst (sBin (cmp2 dNotIn) (sVar 2) (sBin gAdd (sVar 1) (sCon (.str "ABCDEFGHIJKLMNOPQRSTUVWXYZ0123456789-")))))
  (sRet (sCon (.bool false)))
  sSkip))
  (sRet (sCon (.bool true))))))
def b_law_path_of (call : Str → GL) : SS :=
  (sSeq (sSet 2 (sMetS gSplit (sVar 0) [(sCon (.str "."))]))
  (sSeq (sIte (sTst (sBin (cmp2 dGt) (sCall (arg1 gLen) [(sVar 2)]) (sVar 1)))
  (sRet (sCon .none))
  sSkip)
  (sSeq (sFor (sIter (sVar 2)) (tNm 3)
  (sIte (sNot (sTru (sCall (call "_law_is_key") [(sVar 3)])))
  (sRet (sCon .none))
  sSkip))
  (sRet (sCall (arg1 gTuple) [(sVar 2)])))))
def b_law_spoilt (call : Str → GL) : SS :=
  (sSeq (sSet 2 (sCall (call "_law_draw") [(sVar 0), (sCon (.int 9))]))
  (sSeq (sSet 3 (sCall (call "_law_draw") [(sVar 0), (sBin gAdd (sCall (arg1 gLen) [(sVar 1)]) (sCon (.int 1)))]))
  (sSeq (sIte (sTst (sBin (cmp2 dEq) (sVar 2) (sCon (.int 0))))
  (sRet (sBin gAdd (sBin gAdd (sSl (sVar 1) none (some (sVar 3))) (sCall (call "_law_any_sign") [(sVar 0)])) (sSl (sVar 1) (some (sBin gAdd (sVar 3) (sCon (.int 1)))) none)))
  sSkip)
  (sSeq (sIte (sTst (sBin (cmp2 dEq) (sVar 2) (sCon (.int 1))))
  (sRet (sBin gAdd (sBin gAdd (sSl (sVar 1) none (some (sVar 3))) (sCall (call "_law_pick") [(sVar 0), (sCon (.str "._ -A0@"))])) (sSl (sVar 1) (some (sVar 3)) none)))
  sSkip)
  (sSeq (sIte (sTst (sBin (cmp2 dEq) (sVar 2) (sCon (.int 2))))
  (sRet (sBin gAdd (sSl (sVar 1) none (some (sVar 3))) (sSl (sVar 1) (some (sBin gAdd (sVar 3) (sCon (.int 1)))) none)))
  sSkip)
  (sSeq (sIte (sTst (sBin (cmp2 dEq) (sVar 2) (sCon (.int 3))))
  (sRet (sCall (call "_law_pick") [(sVar 0), (sCall gLst [(sBin gAdd (sVar 1) (sCon (.str "."))), (sBin gAdd (sCon (.str ".")) (sVar 1)), (sUn (dat1 (dRep "." "..")) (sVar 1)), (sUn (dat1 (dRep "." " ")) (sVar 1)), (sCon (.str "")), (sCon (.str "."))])]))
  sSkip)
  (sSeq (sIte (sTst (sBin (cmp2 dEq) (sVar 2) (sCon (.int 4))))
  (sRet (sCall (call "_law_text") [(sVar 0), (sBin gAdd (sCon (.int 1)) (sCall (call "_law_draw") [(sVar 0), (sCon (.int 20))]))]))
  sSkip)
  (sSeq (sIte (sTst (sBin (cmp2 dEq) (sVar 2) (sCon (.int 5))))
  (sRet (sCall (call "_law_pick") [(sVar 0), (sCall gLst [(sBin gAdd (sVar 1) (sCon (.str " "))), (sBin gAdd (sCon (.str " ")) (sVar 1)), (sBin gAdd (sVar 1) (sCon (.str ".abcdefghijklmnopq"))), (sBin gAdd (sCon (.str "abcdefghijklmnop.")) (sVar 1))])]))
  sSkip)
  (sRet (sVar 1))))))))))
def b_law (call : Str → GL) : SS :=
  (sSeq (sSet 1 (sCall (call "_law_tape") [(sVar 0)]))
  (sSeq (sSet 2 (sCall (call "_law_keys") [(sVar 1), (sBin gAdd (sCon (.int 1)) (sCall (call "_law_draw") [(sVar 1), (sCon (.int 4))]))]))
  (sSeq (sSet 3 (sCall (call "_law_path") [(sVar 1), (sVar 2), (sCon (.int 5))]))
  (sSeq (sSet 4 (sMetS gJoin (sCon (.str ".")) [(sCall (arg1 gList) [(sVar 3)])]))
  (sSeq (sIte (sOr (sNot (sTru (sCall (call "_law_same") [(sCall (call "show_path") [(sVar 3)]), (sVar 4)]))) (sNot (sTru (sCall (call "_law_same") [(sCall (call "read_path") [(sCall (call "show_path") [(sVar 3)]), (sCon (.int 5))]), (sVar 3)]))))
  (sRet (sCon (.bool false)))
  sSkip)
  (sSeq (sFor (sRng1 (sCon (.int 5))) (tNm 5)
  (sSeq (sSet 6 (sSl (sCall (call "_law_spoilt") [(sVar 1), (sVar 4)]) none (some (sCon (.int 80)))))
  (sSeq (sSet 7 (sBin gAdd (sCon (.int 1)) (sCall (call "_law_draw") [(sVar 1), (sCon (.int 5))])))
  (sFor (sIter (sCall gLst [(sVar 7), (sBin gAdd (sCon (.int 1)) (sCall (call "_law_draw") [(sVar 1), (sCon (.int 5))])), (sVar 7)])) (tNm 8)
  (sIte (sNot (sTru (sCall (call "_law_same") [(sCall (call "read_path") [(sVar 6), (sVar 8)]), (sCall (call "_law_path_of") [(sVar 6), (sVar 8)])])))
  (sRet (sCon (.bool false)))
  sSkip)))))
  (sRet (sAndV (sCall (call "_law_same") [(sCall (call "show_path") [(sSl (sVar 3) none (some (sCon (.int 1))))]), (sBin gIx (sVar 3) (sCon (.int 0)))]) (sCall (call "_law_same") [(sCall (call "read_path") [(sVar 4), (sCall (arg1 gLen) [(sVar 3)])]), (sVar 3)])))))))))
def e_is_key : Ent := ⟨"is_key", topS 4, ["text"], ["text", "sign"], false, false, [], [], [], b_is_key⟩
def e_read_path : Ent := ⟨"read_path", topS 5, ["text", "most"], ["text", "most", "path", "key"], false, false, [], [], [], b_read_path⟩
def e_show_path : Ent := ⟨"show_path", topS 6, ["path"], ["path"], false, false, [], [], [], b_show_path⟩
def e_law_tape : Ent := ⟨"_law_tape", topS 8, ["script"], ["script", "total", "cell"], true, false, [21011], [], [], b_law_tape⟩
def e_law_draw : Ent := ⟨"_law_draw", topS 9, ["tape", "many"], ["tape", "many", "place", "number"], false, false, [], [], [], b_law_draw⟩
def e_law_pick : Ent := ⟨"_law_pick", topS 10, ["tape", "row"], ["tape", "row"], false, false, [], [], [], b_law_pick⟩
def e_law_same : Ent := ⟨"_law_same", topS 11, ["actual", "expected"], ["actual", "expected", "k"], false, false, [], [], [], b_law_same⟩
def e_law_any_sign : Ent := ⟨"_law_any_sign", topS 12, ["tape"], ["tape", "signs"], false, false, [], [], [], b_law_any_sign⟩
def e_law_text : Ent := ⟨"_law_text", topS 13, ["tape", "many"], ["tape", "many", "k"], false, false, [], [], [], b_law_text⟩
def e_law_reserved : Ent := ⟨"_law_reserved", topS 14, [], ["words"], false, false, [], [], [], b_law_reserved⟩
def e_law_fresh : Ent := ⟨"_law_fresh", topS 15, ["key", "keys"], ["key", "keys", "taken", "others", "k", "each"], false, false, [], [], [], b_law_fresh⟩
def e_law_key : Ent := ⟨"_law_key", topS 16, ["tape", "stem"], ["tape", "stem", "letters", "signs", "key", "k"], false, false, [], [], [], b_law_key⟩
def e_law_keys : Ent := ⟨"_law_keys", topS 17, ["tape", "many"], ["tape", "many", "stem", "keys", "k"], false, false, [77011], [], [], b_law_keys⟩
def e_law_path : Ent := ⟨"_law_path", topS 18, ["tape", "keys", "most"], ["tape", "keys", "most", "k"], false, false, [], [], [], b_law_path⟩
def e_law_is_key : Ent := ⟨"_law_is_key", topS 19, ["text"], ["text", "letters", "sign"], false, false, [], [], [], b_law_is_key⟩
def e_law_path_of : Ent := ⟨"_law_path_of", topS 20, ["text", "most"], ["text", "most", "parts", "part"], false, false, [], [], [], b_law_path_of⟩
def e_law_spoilt : Ent := ⟨"_law_spoilt", topS 21, ["tape", "text"], ["tape", "text", "choice", "at"], false, false, [], [], [], b_law_spoilt⟩
def e_law : Ent := ⟨"law", topS 22, ["script"], ["script", "tape", "keys", "path", "text", "k", "spoilt", "most", "each"], false, false, [], [], [], b_law⟩
def T : List Ent := [e_is_key, e_read_path, e_show_path, e_law_tape, e_law_draw, e_law_pick, e_law_same, e_law_any_sign, e_law_text, e_law_reserved, e_law_fresh, e_law_key, e_law_keys, e_law_path, e_law_is_key, e_law_path_of, e_law_spoilt, e_law]
theorem u_is_key {k : Nat} {x0 : Vl} {S : Sto} : run T (k + 1) "is_key" [x0] S = fnEnd false S.length (b_is_key (run T k) [some x0, none] S) := by kernel_rfl
theorem u_read_path {k : Nat} {x0 x1 : Vl} {S : Sto} : run T (k + 1) "read_path" [x0, x1] S = fnEnd false S.length (b_read_path (run T k) [some x0, some x1, none, none] S) := by kernel_rfl
theorem u_show_path {k : Nat} {x0 : Vl} {S : Sto} : run T (k + 1) "show_path" [x0] S = fnEnd false S.length (b_show_path (run T k) [some x0] S) := by kernel_rfl
theorem u_law_tape {k : Nat} {x0 : Vl} {S : Sto} : run T (k + 1) "_law_tape" [x0] S = fnEnd true S.length (b_law_tape (run T k) [some x0, none, none] S) := by kernel_rfl
theorem u_law_draw {k : Nat} {x0 x1 : Vl} {S : Sto} : run T (k + 1) "_law_draw" [x0, x1] S = fnEnd false S.length (b_law_draw (run T k) [some x0, some x1, none, none] S) := by kernel_rfl
theorem u_law_pick {k : Nat} {x0 x1 : Vl} {S : Sto} : run T (k + 1) "_law_pick" [x0, x1] S = fnEnd false S.length (b_law_pick (run T k) [some x0, some x1] S) := by kernel_rfl
theorem u_law_same {k : Nat} {x0 x1 : Vl} {S : Sto} : run T (k + 1) "_law_same" [x0, x1] S = fnEnd false S.length (b_law_same (run T k) [some x0, some x1, none] S) := by kernel_rfl
theorem u_law_any_sign {k : Nat} {x0 : Vl} {S : Sto} : run T (k + 1) "_law_any_sign" [x0] S = fnEnd false S.length (b_law_any_sign (run T k) [some x0, none] S) := by kernel_rfl
theorem u_law_text {k : Nat} {x0 x1 : Vl} {S : Sto} : run T (k + 1) "_law_text" [x0, x1] S = fnEnd false S.length (b_law_text (run T k) [some x0, some x1, none] S) := by kernel_rfl
theorem u_law_reserved {k : Nat} {S : Sto} : run T (k + 1) "_law_reserved" [] S = fnEnd false S.length (b_law_reserved (run T k) [none] S) := by kernel_rfl
theorem u_law_fresh {k : Nat} {x0 x1 : Vl} {S : Sto} : run T (k + 1) "_law_fresh" [x0, x1] S = fnEnd false S.length (b_law_fresh (run T k) [some x0, some x1, none, none, none, none] S) := by kernel_rfl
theorem u_law_key {k : Nat} {x0 x1 : Vl} {S : Sto} : run T (k + 1) "_law_key" [x0, x1] S = fnEnd false S.length (b_law_key (run T k) [some x0, some x1, none, none, none, none] S) := by kernel_rfl
theorem u_law_keys {k : Nat} {x0 x1 : Vl} {S : Sto} : run T (k + 1) "_law_keys" [x0, x1] S = fnEnd false S.length (b_law_keys (run T k) [some x0, some x1, none, none, none] S) := by kernel_rfl
theorem u_law_path {k : Nat} {x0 x1 x2 : Vl} {S : Sto} : run T (k + 1) "_law_path" [x0, x1, x2] S = fnEnd false S.length (b_law_path (run T k) [some x0, some x1, some x2, none] S) := by kernel_rfl
theorem u_law_is_key {k : Nat} {x0 : Vl} {S : Sto} : run T (k + 1) "_law_is_key" [x0] S = fnEnd false S.length (b_law_is_key (run T k) [some x0, none, none] S) := by kernel_rfl
theorem u_law_path_of {k : Nat} {x0 x1 : Vl} {S : Sto} : run T (k + 1) "_law_path_of" [x0, x1] S = fnEnd false S.length (b_law_path_of (run T k) [some x0, some x1, none, none] S) := by kernel_rfl
theorem u_law_spoilt {k : Nat} {x0 x1 : Vl} {S : Sto} : run T (k + 1) "_law_spoilt" [x0, x1] S = fnEnd false S.length (b_law_spoilt (run T k) [some x0, some x1, none, none] S) := by kernel_rfl
theorem u_law {k : Nat} {x0 : Vl} {S : Sto} : run T (k + 1) "law" [x0] S = fnEnd false S.length (b_law (run T k) [some x0, none, none, none, none, none, none, none, none] S) := by kernel_rfl
end L2.Pv

set_option Elab.async false
set_option linter.all false
set_option maxRecDepth 100000
namespace L2.Pv
open PySem PySem.Spec PyProof.Rows L2
theorem draw_end {t : Nat} {n : Int} {S S' : Sto} (hk : Kp t S S') (x : Int) : ∃ d, Fl.rt (Vl.d (PyData.int (x % (if 1 > n then 1 else n)))) = Fl.rt (Vl.d d) ∧ (∃ r, Vl.d d = Vl.d (PyData.int r) ∧ 0 ≤ r ∧ r < max n 1) ∧ Kp t S S' := by
  have h : 0 < (if 1 > n then 1 else n) := by split <;> omega
  have h2 := Int.emod_lt_of_pos x h
  have h3 : (if 1 > n then 1 else n) = max n 1 := by split <;> omega
  exact ⟨_, rfl, ⟨_, rfl, Int.emod_nonneg _ (by omega), by omega⟩, hk⟩
theorem sat_draw {k t : Nat} {n : Int} {S : Sto} (h : Tp S t) (hn : n < 4611686018427387904) : Gen t S (run T (k + 1) "_law_draw" [.o t, .d (.int n)] S) fun v => ∃ r : Int, v = .d (.int r) ∧ 0 ≤ r ∧ r < max n 1 := by
  obtain ⟨ns, p, c, m, e, hp, hc⟩ := h.ex
  rw [u_law_draw]
  refine Gen.end ?_
  unfold b_law_draw
  have hp1 : 0 < (if 1 > n then 1 else n) := by split <;> omega
  have hp2 : 0 < (if 2 > n then 2 else n) := by split <;> omega
  have hp3 : (if 2 > n then 2 else n) < 18446744073709551616 := by split <;> omega
  have hl := lst_lt e
  simp (decide := true) only [EV, e]
  refine Sat_pickB (fun hb => ?_) fun hb => ?_
  · simp (decide := true) only [EV, e, List.length_map]
    refine Sat_pickB (fun hb2 => ?_) fun hb2 => ?_
    · obtain ⟨x, hx⟩ := atI_map hp (of_decide_eq_true hb2)
      simp (decide := true) only [EV, e, hx]
      refine Sat_pickB (fun hb3 => ?_) fun hb3 => ?_
      · simp (decide := true) only [EV, e, hp1]
        exact draw_end (Kp.set hl (by omega) hc) _
      · simp (decide := true) only [EV, e, lst_set e, set_set, hp1, hp2, hp3]
        exact draw_end (Kp.set hl (by omega) (Int.ediv_nonneg int_nn (by omega))) _
    · have hz : decide ((m * 48271 + p + 1) % 2147483647 < 1000000000000000000) = true := decide_eq_true (by omega)
      simp (decide := true) only [EV, e, lst_set e, set_set, hz, hp1]
      exact draw_end (Kp.set hl (by omega) hc) _
  · simp (decide := true) only [EV, e, lst_set e, set_set, hp1, hp2, hp3]
    exact draw_end (Kp.set hl (by omega) (Int.ediv_nonneg hc (by omega))) _

theorem tape_sat {k : Nat} {ns : List Int} : (run T (k + 1) "_law_tape" [.k (ns.map .int)] []).Sat fun v S => ∃ m : Int, v = .o 0 ∧ S = [.lst [.list (ns.map .int), .int 0, .int 0, .int m]] := by
  rw [u_law_tape, Sat_end]
  unfold b_law_tape
  simp (decide := true) only [EV]
  refine Sat_forC (all := ns) (g := PyData.int) (fun _ Γ S => S = [] ∧ ∃ (m : Int) (o : Option Vl), Γ = [some (.k (ns.map .int)), some (.d (.int m)), o]) ⟨rfl, _, _, rfl⟩ ?_ ?_
  · rintro d rest Γ S hd ⟨rfl, m, o, rfl⟩
    refine ⟨_, rfl, ?_⟩
    simp (decide := true) only [EV]
    exact ⟨rfl, _, _, rfl⟩
  · rintro Γ S ⟨rfl, m, o, rfl⟩
    simp (decide := true) only [EV]
    exact ⟨m, rfl, rfl⟩
theorem tape_eq {k : Nat} {ns : List Int} : ∃ m : Int, run T (k + 1) "_law_tape" [.k (ns.map .int)] [] = .ok (.o 0) [.lst [.list (ns.map .int), .int 0, .int 0, .int m]] := by
  have h := tape_sat (k := k) (ns := ns)
  revert h
  generalize run T (k + 1) "_law_tape" [.k (ns.map .int)] [] = r
  intro h
  cases r with
  | exc _ _ _ => exact h.elim
  | bad => exact h.elim
  | ok v S =>
    obtain ⟨m, rfl, rfl⟩ := h
    exact ⟨m, rfl⟩
theorem tape_tp {ns : List Int} {m : Int} : Tp [.lst [.list (ns.map .int), .int 0, .int 0, .int m]] 0 := ⟨ns, 0, 0, m, rfl, by decide, by decide⟩
theorem tape_ex {k : Nat} (ns : List Int) : ∃ S0 : Sto, run T (k + 1) "_law_tape" [.k (ns.map .int)] [] = .ok (.o 0) S0 ∧ Tp S0 0 ∧ S0.length = 1 := by
  obtain ⟨m, e⟩ := tape_eq (k := k) (ns := ns)
  exact ⟨_, e, tape_tp, rfl⟩

theorem sat_pickL {k t : Nat} {ds : List PyData} {S : Sto} (h : Tp S t) (h0 : 0 < ds.length) (hn : ds.length < 1073741824) : Gen t S (run T (k + 2) "_law_pick" [.o t, .d (.list ds)] S) fun v => ∃ d, v = .d d ∧ d ∈ ds := by
  rw [u_law_pick]
  refine Gen.end ?_
  unfold b_law_pick
  simp (decide := true) only [EV]
  refine Gen.then (Kp.refl h) (sat_draw h (by omega)) fun v S' ⟨r, e, h1, h2⟩ hk => ?_
  subst e
  obtain ⟨x, e, hx⟩ := atI_in (xs := ds) h1 (by omega)
  simp (decide := true) only [EV, e]
  exact ⟨_, rfl, ⟨_, rfl, hx⟩, hk⟩
theorem sat_pickS {k t : Nat} {z : Str} {S : Sto} (h : Tp S t) (h0 : 0 < z.length) (hn : z.length ≤ 1000) : Gen t S (run T (k + 2) "_law_pick" [.o t, .d (.str z)] S) fun v => ∃ c, v = .d (.str ⟨#[c]⟩) ∧ c ∈ z.cps.toList := by
  rw [u_law_pick]
  refine Gen.end ?_
  unfold b_law_pick
  simp (decide := true) only [EV, l_sz hn]
  refine Gen.then (Kp.refl h) (sat_draw h (by omega)) fun v S' ⟨r, e, h1, h2⟩ hk => ?_
  subst e
  obtain ⟨x, e, hx⟩ := atI_in (xs := z.cps.toList) h1 (by show r < (z.cps.size : Int); have : z.length = z.cps.size := rfl; omega)
  simp (decide := true) only [EV, e, l_sz hn]
  exact ⟨_, rfl, ⟨_, rfl, hx⟩, hk⟩

def RESL : List Str := ["hook", "each", "when", "then", "and", "or", "not", "has", "set", "default", "from", "remove", "reject", "true", "false"]
def LOWS : Str := "abcdefghijklmnopqrstuvwxyz"
def SIGS : Str := LOWS ++ "ABCDEFGHIJKLMNOPQRSTUVWXYZ0123456789-"
/-- a key: a small letter, then up to fifteen signs -/
def KeyS (x : Str) : Prop := ∃ c r, ts x = c :: r ∧ c ∈ ts LOWS ∧ r.length ≤ 15 ∧ ∀ d ∈ r, d ∈ ts SIGS
theorem KeyS.len {x : Str} (h : KeyS x) : x.length ≤ 16 := by
  obtain ⟨c, r, e, _, hr, _⟩ := h
  rw [len_ts, e, List.length_cons]
  omega
theorem reserved_eq {k : Nat} {S : Sto} : run T (k + 1) "_law_reserved" [] S = .ok (.d (.list (RESL.map .str))) S := by
  rw [u_law_reserved]
  unfold b_law_reserved
  simp (decide := true) only [EV, fnEnd, fin_d, take_all]
  rfl
def candk (x : Str) (j : Nat) : Str := mk ((ts x).take 12) ++ "-" ++ Str.ofString (toString (j : Int))
theorem digit (j : Nat) (h : j < 10) : ts (Str.ofString (toString (j : Int))) = [48 + j] := (show ∀ j < 10, ts (Str.ofString (toString ((j : Nat) : Int))) = [48 + j] by decide +kernel) j h
theorem candk_ts {x : Str} {j : Nat} (h : j < 10) : ts (candk x j) = (ts x).take 12 ++ [45] ++ [48 + j] := by
  unfold candk
  rw [ts_app, ts_app, ts_mk, digit j h]
  rfl
theorem candk_key {x : Str} {j : Nat} (hx : KeyS x) (h : j < 10) : KeyS (candk x j) := by
  obtain ⟨c, r, e, h1, h2, h3⟩ := hx
  refine ⟨c, r.take 11 ++ [45] ++ [48 + j], by rw [candk_ts h, e]; rfl, h1, by simp only [List.length_append, List.length_take, List.length_cons, List.length_nil]; omega, fun d hd => ?_⟩
  rcases List.mem_append.mp hd with hd | hd
  · rcases List.mem_append.mp hd with hd | hd
    · exact h3 d (List.mem_of_mem_take hd)
    · rw [List.mem_singleton.mp hd]; decide +kernel
  · rw [List.mem_singleton.mp hd]; exact (show ∀ j < 10, 48 + j ∈ ts SIGS by decide +kernel) j h
theorem candk_ne {x : Str} {j : Nat} (h : j < 10) : candk x j ∉ RESL := fun hm => by
  have h1 : 45 ∈ ts (candk x j) := by rw [candk_ts h]; simp
  exact (show ∀ w ∈ RESL, 45 ∉ ts w by decide +kernel) _ hm h1
theorem candk_inj {x : Str} {i j : Nat} (hi : i < 10) (hj : j < 10) (h : candk x i = candk x j) : i = j := by
  have := congrArg ts h
  rw [candk_ts hi, candk_ts hj] at this
  have := List.append_cancel_left this
  have := List.cons.inj this
  omega
/-- a fresh key -/
theorem fresh_sat {k : Nat} {x : Str} {kv : Vl} {zs : List Str} {S : Sto} (hx : KeyS x) (hz : zs.length ≤ 9) (ht : ∀ es : List PyData, es.length ≤ 100 → gAdd kv (.d (.list es)) S = .ok (.d (.list (zs.map .str ++ es))) S) (hl : gLen kv S = .ok (.d (.int zs.length)) S) :
    (run T (k + 2) "_law_fresh" [.d (.str x), kv] S).Sat fun v S' => S' = S ∧ ∃ y, v = .d (.str y) ∧ KeyS y ∧ y ∉ zs ∧ y ∉ RESL := by
  have hx16 := hx.len
  rw [u_law_fresh, Sat_end]
  unfold b_law_fresh
  have hr : ((zs.length : Int) + 1) ≤ 1000000 := by omega
  simp (decide := true) only [EV, reserved_eq, ht (RESL.map .str) (by decide), hl, rng_ok (show (0 : Int) ≤ (zs.length : Int) + 1 by omega) hr, rng_fuel (i := 0) hr]
  rw [rng_map, comp_mapg (fun j : Nat => .int (0 + (j : Int))) (fun j => .str (candk x j)) fun j hj => ?_]
  · have e1 : (List.range ((zs.length : Int) + 1).toNat).map (fun j => PyData.str (candk x j)) = ((List.range ((zs.length : Int) + 1).toNat).map (candk x)).map PyData.str := by rw [List.map_map]; rfl
    have hn : ((zs.length : Int) + 1).toNat = zs.length + 1 := by omega
    rw [e1, hn]
    have hsz : decide (0 + 1 + (((List.range (zs.length + 1)).map (candk x)).map PyData.str).length ≤ SZ) = true := decide_eq_true (by
      rw [List.length_map, List.length_map, List.length_range]
      show _ ≤ 16777216
      omega)
    have hsz2 : decide (fuelOf (.its (([x] ++ (List.range (zs.length + 1)).map (candk x)).map PyData.str)) ≤ SZ) = true := decide_eq_true (by
      show (([x] ++ (List.range (zs.length + 1)).map (candk x)).map PyData.str).length + 1 ≤ 16777216
      rw [List.length_map, List.length_append, List.length_map, List.length_range, List.length_singleton]
      omega)
    rw [show (zs.map PyData.str ++ RESL.map PyData.str) = (zs ++ RESL).map PyData.str by rw [List.map_append]]
    have e2 : [PyData.str x] ++ ((List.range (zs.length + 1)).map (candk x)).map PyData.str = ([x] ++ (List.range (zs.length + 1)).map (candk x)).map PyData.str := by rw [List.map_append]; rfl
    simp (decide := true) only [EV, hsz, e2, hsz2]
    rw [comp_filtg PyData.str (fun c => !decide (c ∈ zs ++ RESL)) PyData.str fun c hc => ⟨_, rfl, by simp (decide := true) only [EV, nin_strs], fun _ => by simp (decide := true) only [EV]⟩]
    cases hf : ([x] ++ (List.range (zs.length + 1)).map (candk x)).filter (fun c => !decide (c ∈ zs ++ RESL)) with
    | nil =>
      exfalso
      have hall := List.filter_eq_nil_iff.mp hf
      have hin : ∀ j < zs.length + 1, candk x j ∈ zs := fun j hj => by
        have h1 := hall (candk x j) (List.mem_append_right _ (List.mem_map.mpr ⟨j, List.mem_range.mpr hj, rfl⟩))
        have h2 : candk x j ∈ zs ++ RESL := Decidable.byContradiction fun hn => h1 (by rw [decide_eq_false hn]; rfl)
        rcases List.mem_append.mp h2 with h2 | h2
        · exact h2
        · exact absurd h2 (candk_ne (by omega))
      have hnd : ((List.range (zs.length + 1)).map (candk x)).Nodup := by
        unfold List.Nodup
        rw [List.pairwise_map]
        refine (List.nodup_range (n := zs.length + 1)).imp_of_mem fun {a b} ha hb hne he => hne (candk_inj (by have := List.mem_range.mp ha; omega) (by have := List.mem_range.mp hb; omega) he)
      have := nodup_le hnd fun y hy => by
        obtain ⟨j, hj, rfl⟩ := List.mem_map.mp hy
        exact hin j (List.mem_range.mp hj)
      rw [List.length_map, List.length_range] at this
      omega
    | cons y r =>
      have hy : y ∈ ([x] ++ (List.range (zs.length + 1)).map (candk x)).filter (fun c => !decide (c ∈ zs ++ RESL)) := by rw [hf]; exact List.mem_cons_self
      obtain ⟨h1, h2⟩ := List.mem_filter.mp hy
      have h3 : y ∉ zs ++ RESL := by simpa using h2
      simp (decide := true) only [EV, List.map_cons, fin_d, take_all]
      refine ⟨take_all, y, rfl, ?_, fun h => h3 (List.mem_append_left _ h), fun h => h3 (List.mem_append_right _ h)⟩
      rcases List.mem_append.mp h1 with h1 | h1
      · rw [List.mem_singleton.mp h1]; exact hx
      · obtain ⟨j, hj, rfl⟩ := List.mem_map.mp h1
        exact candk_key hx (by have := List.mem_range.mp hj; omega)
  · have hj : j < 10 := by
      have := List.mem_range.mp hj
      omega
    refine ⟨_, rfl, ?_⟩
    have hlen : (mk ((ts x).take 12)).length ≤ 12 := by
      rw [len_ts, ts_mk, List.length_take]
      omega
    have e0 : (⟨(cutD x.cps.toList none (some 12)).toArray⟩ : Str) = mk ((ts x).take 12) := by
      show mk (cutD (ts x) none (some 12)) = _
      rw [cut_to (by decide)]
      rfl
    have e1 : decide ((mk ((ts x).take 12)).length + (Str.ofString "-").length ≤ SZ) = true := decide_eq_true (by
      rw [show (Str.ofString "-").length = 1 from rfl]
      show _ ≤ 16777216
      omega)
    have hd : (Str.ofString (toString (j : Int))).length = 1 := by rw [len_ts, digit j hj]; rfl
    have e2 : decide ((mk ((ts x).take 12) ++ Str.ofString "-").length + (Str.ofString (toString (j : Int))).length ≤ SZ) = true := decide_eq_true (by
      rw [len_app, hd, show (Str.ofString "-").length = 1 from rfl]
      show _ ≤ 16777216
      omega)
    have e3 : dStr (.int (j : Int)) = some (.str (Str.ofString (toString (j : Int)))) := (show ∀ j < 10, dStr (.int ((j : Nat) : Int)) = some (.str (Str.ofString (toString ((j : Nat) : Int)))) from fun j hj => if_pos ((show ∀ j < 10, ((j : Nat) : Int).natAbs.log2 < 1920 by decide +kernel) j hj)) j hj
    simp (decide := true) only [EV, Int.zero_add, v_slS, l_sz (Nat.le_trans hx16 (by decide)), e0, e1, e3, e2]
    rfl
theorem sat_key {k t : Nat} {S : Sto} {st : Str} (h : Tp S t) (hst : st = "" ∨ st = "x" ∨ st = "longBeginning-") : Gen t S (run T (k + 3) "_law_key" [.o t, .d (.str st)] S) fun v => ∃ x, v = .d (.str x) ∧ KeyS x := by
  rw [u_law_key]
  refine Gen.end ?_
  unfold b_law_key
  have tail : ∀ (y : Str) (o : Option Vl) (S1 : Sto), Kp t S S1 → KeyS y → y.length ≤ 14 →
      (sSeq (sFor (sRng1 (sCall (run T (k + 2) "_law_pick") [(sVar 0), (sCall gLst [(sCon (.int 0)), (sCon (.int 0)), (sCon (.int 0)), (sCon (.int 1)), (sCon (.int 2))])])) (tNm 5)
  (sSet 4 (sBin gAdd (sVar 4) (sCall (run T (k + 2) "_law_pick") [(sVar 0), (sVar 3)]))))
  (sRet (sVar 4)) [some (.o t), some (.d (.str st)), some (.d (.str "abcdefghijklmnopqrstuvwxyz")), some (.d (.str ("abcdefghijklmnopqrstuvwxyz" ++ "ABCDEFGHIJKLMNOPQRSTUVWXYZ0123456789-"))), some (.d (.str y)), o] S1).Sat fun fl S' => ∃ d, fl = .rt (.d d) ∧ (∃ x, Vl.d d = .d (.str x) ∧ KeyS x) ∧ Kp t S S' := by
    intro y o S1 hk hy hy14
    simp (decide := true) only [EV]
    refine Gen.then hk (sat_pickL hk.tp (by decide) (by decide)) fun v S2 ⟨d, e, hd⟩ hk => ?_
    subst e
    have hm : ∃ m : Int, d = .int m ∧ 0 ≤ m ∧ m ≤ 2 := by
      simp only [List.mem_cons, List.mem_nil_iff, or_false] at hd
      rcases hd with rfl | rfl | rfl | rfl | rfl <;> exact ⟨_, rfl, by decide, by decide⟩
    obtain ⟨m, rfl, hm0, hm1⟩ := hm
    simp (decide := true) only [EV, rng_ok hm0 (Int.le_trans hm1 (by decide)), rng_fuel (i := 0) (Int.le_trans hm1 (by decide : (2 : Int) ≤ 1000000))]
    rw [rng_map]
    refine Sat_forC (fun rest Γ S' => Kp t S S' ∧ ∃ (z : Str) (o : Option Vl), Γ = [some (.o t), some (.d (.str st)), some (.d (.str "abcdefghijklmnopqrstuvwxyz")), some (.d (.str ("abcdefghijklmnopqrstuvwxyz" ++ "ABCDEFGHIJKLMNOPQRSTUVWXYZ0123456789-"))), some (.d (.str z)), o] ∧ KeyS z ∧ z.length + rest.length ≤ 16) ⟨hk, y, o, rfl, hy, by rw [List.length_range]; omega⟩ ?_ ?_
    · rintro j rest Γ S' hj ⟨hk, z, o, rfl, hz, hzl⟩
      refine ⟨_, rfl, ?_⟩
      simp (decide := true) only [EV]
      refine Gen.then hk (sat_pickS hk.tp (by decide) (by decide)) fun v S3 ⟨c, e, hc⟩ hk => ?_
      subst e
      simp (decide := true) only [EV]
      rw [List.length_cons] at hzl
      refine Sat_addS (by rw [len1]; omega) fun w hw hw2 => ?_
      rw [len1] at hw
      refine ⟨hk, w, _, rfl, ?_, by omega⟩
      obtain ⟨c0, r0, e0, h1, h2, h3⟩ := hz
      refine ⟨c0, r0 ++ [c], by rw [hw2, e0]; rfl, h1, ?_, fun d hd => ?_⟩
      · have : w.length = r0.length + 2 := by rw [len_ts, hw2, e0]; simp [ts]
        rw [List.length_append, List.length_singleton]
        omega
      · rcases List.mem_append.mp hd with hd | hd
        · exact h3 d hd
        · rw [List.mem_singleton.mp hd]; exact hc
    · rintro Γ S' ⟨hk, z, o, rfl, hz, hzl⟩
      simp (decide := true) only [EV]
      exact ⟨_, rfl, ⟨z, rfl, hz⟩, hk⟩
  have key1 : ∀ c, c ∈ ts LOWS → KeyS ⟨#[c]⟩ := fun c hc => ⟨c, [], rfl, hc, by decide, fun d hd => absurd hd (by simp)⟩
  rcases hst with rfl | rfl | rfl
  · simp (decide := true) only [EV]
    refine Gen.then (Kp.refl h) (sat_draw h (by decide)) fun v S1 ⟨r, e, hr0, hr1⟩ hk => ?_
    subst e
    have hr : r = 0 ∨ r = 1 := by omega
    rcases hr with rfl | rfl
    · simp (decide := true) only [EV]
      refine Gen.then hk (sat_pickS hk.tp (by decide) (by decide)) fun v S2 ⟨c, e, hc⟩ hk => ?_
      subst e
      have t1 := tail ⟨#[c]⟩ none S2 hk (key1 c hc) (by rw [len1]; decide)
      simp (decide := true) only [EV] at t1
      exact t1
    · simp (decide := true) only [EV]
      refine Gen.then hk (sat_pickS hk.tp (by decide) (by decide)) fun v S2 ⟨c, e, hc⟩ hk => ?_
      subst e
      have t1 := tail ⟨#[c]⟩ none S2 hk (key1 c ((show ∀ c ∈ ts "abcd", c ∈ ts LOWS by decide +kernel) c hc)) (by rw [len1]; decide)
      simp (decide := true) only [EV] at t1
      exact t1
  · simp (decide := true) only [EV]
    have t1 := tail "x" none S (Kp.refl h) ⟨120, [], rfl, by decide +kernel, by decide, fun d hd => absurd hd (by simp)⟩ (by decide)
    simp (decide := true) only [EV] at t1
    exact t1
  · simp (decide := true) only [EV]
    have t1 := tail "longBeginning-" none S (Kp.refl h) ⟨108, _, rfl, by decide +kernel, by decide, by decide +kernel⟩ (by decide)
    simp (decide := true) only [EV] at t1
    exact t1
theorem sat_keys {k t : Nat} {S : Sto} {n : Int} (h : Tp S t) (hn0 : 0 ≤ n) (hn : n ≤ 9) : Gen t S (run T (k + 4) "_law_keys" [.o t, .d (.int n)] S) fun v => ∃ zs : List Str, v = .d (.list (zs.map .str)) ∧ zs.length = n.toNat ∧ zs.Nodup ∧ ∀ z ∈ zs, KeyS z ∧ z ∉ RESL := by
  rw [u_law_keys]
  unfold Gen
  rw [Sat_end]
  unfold b_law_keys
  simp (decide := true) only [EV]
  refine Gen.then (Kp.refl h) (sat_pickL h (by decide) (by decide)) fun v S1 ⟨d, e, hd⟩ hk => ?_
  subst e
  have hst : ∃ st : Str, d = .str st ∧ (st = "" ∨ st = "x" ∨ st = "longBeginning-") := by
    simp only [List.mem_cons, List.mem_nil_iff, or_false] at hd
    rcases hd with rfl | rfl | rfl | rfl | rfl | rfl
    · exact ⟨_, rfl, .inl rfl⟩
    · exact ⟨_, rfl, .inl rfl⟩
    · exact ⟨_, rfl, .inl rfl⟩
    · exact ⟨_, rfl, .inl rfl⟩
    · exact ⟨_, rfl, .inr (.inl rfl)⟩
    · exact ⟨_, rfl, .inr (.inr rfl)⟩
  obtain ⟨st, rfl, hst⟩ := hst
  simp (decide := true) only [EV, rng_ok hn0 (Int.le_trans hn (by decide)), rng_fuel (i := 0) (Int.le_trans hn (by decide : (9 : Int) ≤ 1000000))]
  rw [hk.len, rng_map]
  refine Sat_forC (fun rest Γ S' => ∃ (zs : List Str) (S1 : Sto) (o : Option Vl), S' = S1 ++ [.lst (zs.map .str)] ∧ Kp t S S1 ∧ Γ = [some (.o t), some (.d (.int n)), some (.d (.str st)), some (.o S.length), o] ∧ zs.length + rest.length = n.toNat ∧ zs.Nodup ∧ ∀ z ∈ zs, KeyS z ∧ z ∉ RESL)
    ⟨[], S1, none, rfl, hk, rfl, by rw [List.length_range, List.length_nil, Nat.zero_add], List.nodup_nil, fun z hz => absurd hz (by simp)⟩ ?_ ?_
  · rintro j rest Γ S' hj ⟨zs, S1, o, rfl, hk, rfl, hz, hnd, hzl⟩
    rw [List.length_cons] at hz
    refine ⟨_, rfl, ?_⟩
    simp (decide := true) only [EV, lst_own hk.len]
    refine Gen.thenL hk (sat_key hk.tp.app hst) fun v S3 ⟨x, e, hx⟩ hk => ?_
    subst e
    rw [Sat_bind]
    refine (fresh_sat (k := k + 1) (kv := .o S.length) (zs := zs) hx (by omega) (fun es he => ?_) ?_).mono ?_
    · have : decide ((zs.map PyData.str).length + es.length ≤ SZ) = true := decide_eq_true (by rw [List.length_map]; show _ ≤ 16777216; omega)
      simp (decide := true) only [EV, lst_own hk.len, this]
    · simp (decide := true) only [EV, lst_own hk.len, List.length_map]
    · rintro v S4 ⟨rfl, y, rfl, hy, hy1, hy2⟩
      simp (decide := true) only [EV, lst_own hk.len, app_own hk.len (show (zs.map PyData.str).length < SZ by rw [List.length_map]; show _ < 16777216; omega)]
      refine ⟨zs ++ [y], S3, _, by rw [List.map_append]; rfl, hk, rfl, by rw [List.length_append, List.length_singleton]; omega, ?_, fun z hz => ?_⟩
      · rw [List.nodup_append]
        refine ⟨hnd, List.nodup_cons.mpr ⟨by simp, List.nodup_nil⟩, fun a ha b hb z => ?_⟩
        rw [List.mem_singleton.mp hb] at z
        exact hy1 (z ▸ ha)
      · rcases List.mem_append.mp hz with hz | hz
        · exact hzl z hz
        · rw [List.mem_singleton.mp hz]; exact ⟨hy, hy2⟩
  · rintro Γ S' ⟨zs, S1, o, rfl, hk, rfl, hz, hnd, hzl⟩
    simp (decide := true) only [EV]
    show (fin false S.length (.o S.length) (S1 ++ [Ob.lst (zs.map .str)])).Sat _
    rw [fin_own hk.len]
    exact ⟨⟨zs, rfl, by simpa using hz, hnd, hzl⟩, hk⟩
/-- a path of the keys -/
theorem sat_path {k t : Nat} {S : Sto} {zs : List Str} {n : Int} (h : Tp S t) (h0 : 0 < zs.length) (hz : zs.length ≤ 1000) (hn0 : 1 ≤ n) (hn : n ≤ 1000) : Gen t S (run T (k + 3) "_law_path" [.o t, .d (.list (zs.map .str)), .d (.int n)] S) fun v => ∃ p : List Str, v = .d (.tuple (p.map .str)) ∧ 0 < p.length ∧ p.length ≤ n.toNat ∧ ∀ z ∈ p, z ∈ zs := by
  rw [u_law_path]
  refine Gen.end ?_
  unfold b_law_path
  simp (decide := true) only [EV]
  refine Gen.then (Kp.refl h) (sat_draw h (by omega)) fun v S1 ⟨r, e, hr0, hr1⟩ hk => ?_
  subst e
  have hr2 : 1 + r ≤ 1000000 := by omega
  simp (decide := true) only [EV, rng_ok (show 0 ≤ 1 + r by omega) hr2, rng_fuel (i := 0) hr2]
  refine Gen.comp (P := fun y => ∃ z, y = .str z ∧ z ∈ zs) hk (fun d S' hk hd => ⟨_, rfl, ?_⟩) fun ys S2 hl hp hk => ?_
  · simp (decide := true) only [EV]
    refine (sat_pickL hk.tp (by rw [List.length_map]; exact h0) (by rw [List.length_map]; omega)).mono fun v ⟨d, e, hd⟩ => ⟨d, e, ?_⟩
    obtain ⟨z, hz, rfl⟩ := List.mem_map.mp hd
    exact ⟨z, rfl, hz⟩
  · obtain ⟨p, rfl, hp2⟩ := all_strs hp
    rw [List.length_map, rng_len] at hl
    exact ⟨_, rfl, ⟨p, rfl, by omega, by omega, hp2⟩, hk⟩

theorem same_self : ∀ (n : Nat) {d : PyData} {k : Nat} {S : Sto}, Plain d → d.depth ≤ n → run T (n + k + 1) "_law_same" [.d d, .d d] S = .ok (.d (.bool true)) S := by
  intro n
  induction n with
  | zero =>
    intro d k S hp hd
    rw [Nat.zero_add, u_law_same]
    unfold b_law_same
    cases hp with
    | non => simp (decide := true) only [EV, isi_tab, fnEnd, fin_d, take_all]
    | bl b => simp (decide := true) only [EV, isi_tab, fnEnd, fin_d, take_all]
    | int i => simp (decide := true) only [EV, isi_tab, fnEnd, fin_d, take_all]
    | str x => simp (decide := true) only [EV, isi_tab, fnEnd, fin_d, take_all]
    | tup ds h hl => exact absurd hd (by show ¬(PyData.depthAll ds + 1 ≤ 0); omega)
  | succ n ih =>
    intro d k S hp hd
    rw [show n + 1 + k + 1 = (n + k + 1) + 1 by omega, u_law_same]
    unfold b_law_same
    cases hp with
    | non => simp (decide := true) only [EV, isi_tab, fnEnd, fin_d, take_all]
    | bl b => simp (decide := true) only [EV, isi_tab, fnEnd, fin_d, take_all]
    | int i => simp (decide := true) only [EV, isi_tab, fnEnd, fin_d, take_all]
    | str x => simp (decide := true) only [EV, isi_tab, fnEnd, fin_d, take_all]
    | tup ds h hl =>
      have hd' : PyData.depthAll ds ≤ n := by
        have : PyData.depth (.tuple ds) = PyData.depthAll ds + 1 := rfl
        omega
      have hr : (ds.length : Int) ≤ 1000000 := by omega
      simp (decide := true) only [EV, isi_tab, rng_ok (Int.natCast_nonneg ds.length) hr, rng_fuel (i := 0) hr]
      rw [rng_map, comp_filtg _ (fun _ => false) (fun j : Nat => .int (0 + (j : Int))) fun j hj => ?_]
      · rw [List.filter_eq_nil_iff.mpr fun _ _ => Bool.false_ne_true]
        simp (decide := true) only [EV, List.map_nil, eq_nil, List.isEmpty_nil, fnEnd, fin_d, take_all]
      · have hj : j < ds.length := by simpa using hj
        have h1 := ih (k := k) (S := S) (h ds[j] (List.getElem_mem hj)) (Nat.le_trans (depth_mem (List.getElem_mem hj)) hd')
        refine ⟨_, rfl, ?_, fun e => absurd e Bool.false_ne_true⟩
        simp (decide := true) only [EV, Int.zero_add, atI_nat hj, h1]

theorem sat_any_sign {k t : Nat} {S : Sto} (h : Tp S t) : Gen t S (run T (k + 3) "_law_any_sign" [.o t] S) fun v => ∃ c, v = .d (.str ⟨#[c]⟩) ∧ 32 ≤ c ∧ c ≤ 126 ∧ c ≠ 37 := by
  rw [u_law_any_sign]
  refine Gen.end ?_
  unfold b_law_any_sign
  simp (decide := true) only [EV]
  refine Gen.then (Kp.refl h) (sat_pickS h ?_ ?_) fun v S' ⟨c, e, hc⟩ hk => ?_
  · decide +kernel
  · decide +kernel
  subst e
  exact ⟨_, rfl, ⟨c, rfl, (show ∀ c ∈ ((" !\"#$&'()*+,-./0123456789:;<=>?@ABCDEFGHIJKLMNOPQRSTUVWXYZ[\\]^_`" : Str) ++ ("abcdefghijklmnopqrstuvwxyz{|}~" : Str)).cps.toList, 32 ≤ c ∧ c ≤ 126 ∧ c ≠ 37 by decide +kernel) c hc⟩, hk⟩

theorem sat_text {k t : Nat} {n : Int} {S : Sto} (h : Tp S t) (h0 : 0 ≤ n) (hn : n ≤ 100000) : Gen t S (run T (k + 4) "_law_text" [.o t, .d (.int n)] S) fun v => ∃ x, v = .d (.str x) ∧ x.length = n.toNat ∧ ∀ c ∈ ts x, 32 ≤ c ∧ c ≤ 126 ∧ c ≠ 37 := by
  rw [u_law_text]
  refine Gen.end ?_
  unfold b_law_text
  simp (decide := true) only [EV, rng_ok h0 (Int.le_trans hn (by decide)), rng_fuel (i := 0) (Int.le_trans hn (by decide : (100000 : Int) ≤ 1000000))]
  refine Gen.comp (P := fun y => ∃ x, y = .str x ∧ x.length = 1 ∧ ∀ c ∈ ts x, 32 ≤ c ∧ c ≤ 126 ∧ c ≠ 37) (Kp.refl h) (fun d S' hk hd => ⟨_, rfl, ?_⟩) fun ys S' hl hp hk => ?_
  · simp (decide := true) only [EV]
    refine (sat_any_sign hk.tp).mono fun v ⟨c, e, hc⟩ => ⟨_, e, _, rfl, rfl, fun c' hc' => ?_⟩
    rw [List.mem_singleton.mp hc']
    exact hc
  · obtain ⟨zs, e, hz⟩ := all_strs hp
    subst e
    rw [List.length_map, rng_len] at hl
    simp (decide := true) only [EV, j_join (n := 1) (a := "") rfl (fun z hz1 => Nat.le_of_eq (hz z hz1).1) (show zs.length * 1 ≤ SZ by unfold SZ; omega)]
    refine ⟨_, rfl, ⟨_, rfl, ?_, fun c hc => ?_⟩, hk⟩
    · rw [len_join0 rfl, ← hl]
      have : ∀ l : List Str, (∀ z ∈ l, z.length = 1) → (l.map (·.length)).sum = l.length := fun l => by
        induction l with
        | nil => intro _; rfl
        | cons a r ih =>
          intro h
          rw [List.map_cons, List.sum_cons, ih fun z hz => h z (List.mem_cons_of_mem _ hz), h a List.mem_cons_self, List.length_cons]
          omega
      exact this zs fun z hz1 => (hz z hz1).1
    · rw [ts_join0 rfl] at hc
      obtain ⟨l, hl, hc⟩ := List.mem_flatten.mp hc
      obtain ⟨z, hz1, rfl⟩ := List.mem_map.mp hl
      exact (hz z hz1).2 c hc

theorem ts_join2 (a x y : Str) (r : List Str) : ts (Str.join a (x :: y :: r)) = ts x ++ ts a ++ ts (Str.join a (y :: r)) := by
  show ts (x ++ a ++ Str.join a (y :: r)) = _
  rw [ts_app, ts_app]
theorem join_len (a : Str) : ∀ zs : List Str, (Str.join a zs).length + a.length ≥ zs.length * a.length ∧ ∀ n, (∀ z ∈ zs, z.length ≤ n) → (Str.join a zs).length ≤ zs.length * (n + a.length)
  | [] => ⟨by simp, fun n _ => by show 0 ≤ _; omega⟩
  | [x] => ⟨by show x.length + a.length ≥ 1 * a.length; omega, fun n h => by
    have := h x List.mem_cons_self
    show x.length ≤ 1 * (n + a.length)
    omega⟩
  | x :: y :: r => by
    obtain ⟨h1, h2⟩ := join_len a (y :: r)
    have e : (Str.join a (x :: y :: r)).length = x.length + a.length + (Str.join a (y :: r)).length := by
      show (x ++ a ++ Str.join a (y :: r)).length = _
      rw [len_app, len_app]
    refine ⟨?_, fun n h => ?_⟩
    · rw [e, List.length_cons, Nat.add_mul]
      omega
    · have h3 := h2 n fun z hz => h z (List.mem_cons_of_mem _ hz)
      have h4 := h x List.mem_cons_self
      rw [e, List.length_cons, Nat.add_mul, Nat.one_mul]
      omega
/-- sep.join of texts -/
theorem j_joinG {a : Str} {zs : List Str} {S : Sto} {n : Nat} (h : ∀ z ∈ zs, z.length ≤ n) (hn : zs.length * (n + a.length) ≤ SZ) : gJoin (.d (.str a)) [.d (.list (zs.map .str))] S = .ok (.d (.str (Str.join a zs))) S := by
  have h1 : (zs.map (·.length)).sum ≤ zs.length * n := by
    have := sum_le (l := zs.map (·.length)) (n := n) fun x hx => by
      obtain ⟨z, hz, e⟩ := List.mem_map.mp hx
      exact e ▸ h z hz
    rwa [List.length_map] at this
  have e : gJoin (.d (.str a)) [.d (.list (zs.map .str))] S = (match strsOf (zs.map .str) with
        | some ys => if (ys.map (·.length)).sum + ys.length * a.length ≤ 16777216 then .ok (.d (.str (Str.join a ys))) S else .bad
        | none => .bad) := rfl
  rw [e, strs_map]
  show (if _ then _ else _) = _
  rw [if_pos]
  rw [Nat.mul_add] at hn
  show _ ≤ SZ
  omega

theorem join_mem (a : Str) : ∀ {zs : List Str} {z : Str}, z ∈ zs → z.length ≤ (Str.join a zs).length
  | [x], z, h => by
    rw [List.mem_singleton.mp h]
    exact Nat.le_refl _
  | x :: y :: r, z, h => by
    have e : (Str.join a (x :: y :: r)).length = x.length + a.length + (Str.join a (y :: r)).length := by
      show (x ++ a ++ Str.join a (y :: r)).length = _
      rw [len_app, len_app]
    rcases List.mem_cons.mp h with rfl | h
    · omega
    · have := join_mem a (zs := y :: r) h
      omega

theorem j_joinT {a : Str} {zs : List Str} {S : Sto} {n : Nat} (h : ∀ z ∈ zs, z.length ≤ n) (hn : zs.length * (n + a.length) ≤ SZ) : gJoin (.d (.str a)) [.d (.tuple (zs.map .str))] S = .ok (.d (.str (Str.join a zs))) S := by
  have h1 : (zs.map (·.length)).sum ≤ zs.length * n := by
    have := sum_le (l := zs.map (·.length)) (n := n) fun x hx => by
      obtain ⟨z, hz, e⟩ := List.mem_map.mp hx
      exact e ▸ h z hz
    rwa [List.length_map] at this
  have e : gJoin (.d (.str a)) [.d (.tuple (zs.map .str))] S = (match strsOf (zs.map .str) with
        | some ys => if (ys.map (·.length)).sum + ys.length * a.length ≤ 16777216 then .ok (.d (.str (Str.join a ys))) S else .bad
        | none => .bad) := rfl
  rw [e, strs_map]
  show (if _ then _ else _) = _
  rw [if_pos]
  rw [Nat.mul_add] at hn
  show _ ≤ SZ
  omega

end L2.Pv

set_option Elab.async false
set_option linter.all false
set_option maxRecDepth 100000
namespace L2.Pv
open PySem PySem.Spec PyProof.Rows L2
def LOW : Str := "abcdefghijklmnopqrstuvwxyz"
def SGN : Str := "-0123456789ABCDEFGHIJKLMNOPQRSTUVWXYZabcdefghijklmnopqrstuvwxyz"
def isK : List Nat → Bool
  | [] => false
  | c :: r => decide (r.length < 16) && decide (c ∈ ts LOW) && (c :: r).all fun c => decide (c ∈ ts SGN)
theorem isK_c (c : Nat) (r : List Nat) : isK (c :: r) = (decide (r.length < 16) && decide (c ∈ ts LOW) && (c :: r).all fun c => decide (c ∈ ts SGN)) := rfl
theorem is_key_eq {k : Nat} {x : Str} {S : Sto} (hx : x.length ≤ 10000) : run T (k + 1) "is_key" [.d (.str x)] S = .ok (.d (.bool (isK (ts x)))) S := by
  have hsz : decide (x.length ≤ SZ) = true := decide_eq_true (Nat.le_trans hx (by decide))
  rw [u_is_key]
  unfold b_is_key
  simp (decide := true) only [EV, hsz]
  cases hl : ts x with
  | nil =>
    have e : x = "" := str_ext hl
    rw [decide_eq_true e]
    simp (decide := true) only [EV, fnEnd, fin_d, take_all]
    rfl
  | cons c r =>
    have e : x ≠ "" := fun e => by rw [e] at hl; cases hl
    rw [decide_eq_false e]
    simp (decide := true) only [EV]
    have hlen : x.length = r.length + 1 := by rw [len_ts, hl]; rfl
    by_cases h16 : r.length < 16
    · rw [show decide ((16 : Int) < x.length) = false from decide_eq_false (by omega)]
      have h0 : atI x.cps.toList 0 = some c := by
        show atI (ts x) 0 = _
        rw [hl, l_at0]
      simp (decide := true) only [EV, h0]
      by_cases hc : c ∈ ts LOW
      · rw [show decide (c ∈ (Str.ofString "abcdefghijklmnopqrstuvwxyz").cps.toList) = true from decide_eq_true hc]
        simp (decide := true) only [EV, str_fuel (Nat.le_trans hx (by decide))]
        rw [strIts_map, comp_mapg (fun c => .str ⟨#[c]⟩) (fun c => .bool (decide (c ∈ ts SGN))) fun c hc => ⟨_, rfl, by simp (decide := true) only [EV]; rfl⟩]
        simp (decide := true) only [EV, bools_mapg, fnEnd, fin_d, take_all, isK, hl, decide_eq_true h16, decide_eq_true hc, Bool.true_and, List.all_map]
        rfl
      · rw [show decide (c ∈ (Str.ofString "abcdefghijklmnopqrstuvwxyz").cps.toList) = false from decide_eq_false hc]
        simp (decide := true) only [EV, fnEnd, fin_d, take_all, isK, decide_eq_true h16, decide_eq_false hc, Bool.true_and, Bool.false_and]
    · rw [show decide ((16 : Int) < x.length) = true from decide_eq_true (by omega)]
      simp (decide := true) only [EV, fnEnd, fin_d, take_all, isK, decide_eq_false h16, Bool.false_and]

def LOW2 : Str := "abcdefghijklmnopqrstuvwxyz" ++ "ABCDEFGHIJKLMNOPQRSTUVWXYZ0123456789-"
theorem sgn_same (c : Nat) : decide (c ∈ ts SGN) = decide (c ∈ ts LOW2) := by
  have h1 : ∀ c ∈ ts SGN, c ∈ ts LOW2 := by decide +kernel
  have h2 : ∀ c ∈ ts LOW2, c ∈ ts SGN := by decide +kernel
  exact decide_eq_decide.mpr ⟨h1 c, h2 c⟩
theorem law_is_key_eq {k : Nat} {x : Str} {S : Sto} (hx : x.length ≤ 10000) : run T (k + 1) "_law_is_key" [.d (.str x)] S = .ok (.d (.bool (isK (ts x)))) S := by
  have hsz : decide (x.length ≤ SZ) = true := decide_eq_true (Nat.le_trans hx (by decide))
  rw [u_law_is_key]
  unfold b_law_is_key
  simp (decide := true) only [EV, hsz]
  cases hl : ts x with
  | nil =>
    have e : x = "" := str_ext hl
    rw [decide_eq_true e]
    simp (decide := true) only [EV, fnEnd, fin_d, take_all]
    rfl
  | cons c r =>
    have e : x ≠ "" := fun e => by rw [e] at hl; cases hl
    rw [decide_eq_false e]
    simp (decide := true) only [EV]
    have hlen : x.length = r.length + 1 := by rw [len_ts, hl]; rfl
    by_cases h16 : r.length < 16
    · rw [show decide ((16 : Int) < x.length) = false from decide_eq_false (by omega)]
      have h0 : atI x.cps.toList 0 = some c := by
        show atI (ts x) 0 = _
        rw [hl, l_at0]
      simp (decide := true) only [EV, h0]
      by_cases hc : c ∈ ts LOW
      · rw [show decide (c ∈ (Str.ofString "abcdefghijklmnopqrstuvwxyz").cps.toList) = true from decide_eq_true hc]
        simp (decide := true) only [EV]
        rw [strIts_map]
        have e1 : isK (c :: r) = (ts x).all fun c => decide (c ∈ ts SGN) := by
          rw [isK_c, hl, decide_eq_true h16, decide_eq_true hc, Bool.true_and, Bool.true_and]
        rw [e1]
        rcases for_all (S := S) (Γ := [some (.d (.str x)), some (.d (.str "abcdefghijklmnopqrstuvwxyz")), none]) (tg := tNm 2) (b := sIte (sTst (sBin (cmp2 dNotIn) (sVar 2) (sBin gAdd (sVar 1) (sCon (.str "ABCDEFGHIJKLMNOPQRSTUVWXYZ0123456789-"))))) (sRet (sCon (.bool false))) sSkip) (all := ts x)
          (fun c => .str ⟨#[c]⟩) (fun c => decide (c ∈ ts SGN)) (.d (.bool false)) (fun Γ => ∃ o, Γ = [some (.d (.str x)), some (.d (.str "abcdefghijklmnopqrstuvwxyz")), o]) ⟨_, rfl⟩ (fun c hc Γ => by
          rintro ⟨o, rfl⟩
          refine ⟨_, rfl, ?_⟩
          simp (decide := true) only [EV]
          rw [sgn_same c]
          show (decide (c ∈ ts LOW2) = true → ∃ Γ3, ((pick (!decide (c ∈ ts LOW2)) _ _ = _) ∨ (pick (!decide (c ∈ ts LOW2)) _ _ = _)) ∧ _) ∧ (decide (c ∈ ts LOW2) = false → pick (!decide (c ∈ ts LOW2)) _ _ = _)
          cases decide (c ∈ ts LOW2)
          · exact ⟨fun h => absurd h (by decide), fun _ => rfl⟩
          · exact ⟨fun h => ⟨_, .inl rfl, _, rfl⟩, fun h => absurd h (by decide)⟩) with ⟨h1, Γ3, h2, _⟩ | ⟨h1, h2⟩
        · rw [h1, h2]
          simp (decide := true) only [EV, fnEnd, fin_d, take_all]
        · rw [h1, h2]
          simp (decide := true) only [EV, fnEnd, fin_d, take_all]
      · rw [show decide (c ∈ (Str.ofString "abcdefghijklmnopqrstuvwxyz").cps.toList) = false from decide_eq_false hc]
        simp (decide := true) only [EV, fnEnd, fin_d, take_all, isK, decide_eq_true h16, decide_eq_false hc, Bool.true_and, Bool.false_and]
    · rw [show decide ((16 : Int) < x.length) = true from decide_eq_true (by omega)]
      simp (decide := true) only [EV, fnEnd, fin_d, take_all, isK, decide_eq_false h16, Bool.false_and]
/-! ### paths of texts -/
def DOT : Str := "."
theorem split_lenD {x : Str} : (Txt.split x DOT).length ≤ x.length + 1 ∧ ∀ z ∈ Txt.split x DOT, z.length ≤ x.length := by
  have h := (join_len DOT (Txt.split x DOT)).1
  have hj : Str.join DOT (Txt.split x DOT) = x := PySem.StrLaws.join_split _ _
  rw [hj, show DOT.length = 1 from rfl] at h
  refine ⟨by omega, fun z hz => ?_⟩
  have := join_mem DOT hz
  rw [hj] at this
  exact this
def rdP (x : Str) (n : Int) : Option (List Str) := if n < ((Txt.split x DOT).length : Int) then none else if (Txt.split x DOT).all (fun y => isK (ts y)) = true then some (Txt.split x DOT) else none
def optP : Option (List Str) → PyData
  | none => .none
  | some p => .tuple (p.map .str)
theorem spl_okD {x : Str} {i : Decidable (True ∧ x.length + 2 ≤ SZ)} (h : x.length ≤ 5000) : @decide _ i = true := decide_eq_true ⟨trivial, by show _ ≤ 16777216; omega⟩
theorem fuel_mapD {l : List Str} (h : l.length ≤ 100000) : decide (fuelOf (.its (l.map PyData.str)) ≤ SZ) = true := decide_eq_true (by
  show (l.map PyData.str).length + 1 ≤ 16777216
  rw [List.length_map]
  omega)
theorem read_path_eq {k : Nat} {x : Str} {n : Int} {S : Sto} (h : x.length ≤ 5000) : run T (k + 2) "read_path" [.d (.str x), .d (.int n)] S = .ok (.d (optP (rdP x n))) S := by
  rw [u_read_path]
  unfold b_read_path rdP
  have hs := split_lenD (x := x)
  obtain ⟨zs, ez⟩ : ∃ zs, zs = Txt.split x DOT := ⟨_, rfl⟩
  rw [← ez] at hs ⊢
  have ez' : Txt.split x (Str.ofString ".") = zs := ez.symm
  have hsz : decide ((zs.map PyData.str).length ≤ SZ) = true := decide_eq_true (by rw [List.length_map]; show _ ≤ 16777216; omega)
  simp (decide := true) only [EV, spl_okD h, pick_t, ez', hsz, List.length_map]
  by_cases hn : n < (zs.length : Int)
  · rw [if_pos hn, decide_eq_true hn]
    simp (decide := true) only [EV, fnEnd, fin_d, take_all, optP]
  · rw [if_neg hn, decide_eq_false hn]
    simp (decide := true) only [EV, fuel_mapD (l := zs) (by omega)]
    rw [comp_mapg PyData.str (fun y => .bool (isK (ts y))) fun y hy => ⟨_, rfl, by simp (decide := true) only [EV, is_key_eq (k := k) (S := S) (show y.length ≤ 10000 from Nat.le_trans (hs.2 y hy) (by omega))]⟩]
    simp (decide := true) only [EV, bools_mapg]
    rw [show (zs.map fun a => isK (ts a)).all id = zs.all fun y => isK (ts y) by rw [List.all_map]; rfl]
    cases zs.all fun y => isK (ts y) with
    | true => simp (decide := true) only [EV, fnEnd, fin_d, take_all, optP, if_true]
    | false => simp (decide := true) only [EV, fnEnd, fin_d, take_all, optP, if_false]
theorem law_path_of_eq {k : Nat} {x : Str} {n : Int} {S : Sto} (h : x.length ≤ 5000) : run T (k + 2) "_law_path_of" [.d (.str x), .d (.int n)] S = .ok (.d (optP (rdP x n))) S := by
  rw [u_law_path_of]
  unfold b_law_path_of rdP
  have hs := split_lenD (x := x)
  obtain ⟨zs, ez⟩ : ∃ zs, zs = Txt.split x DOT := ⟨_, rfl⟩
  rw [← ez] at hs ⊢
  have ez' : Txt.split x (Str.ofString ".") = zs := ez.symm
  simp (decide := true) only [EV, spl_okD h, pick_t, ez', List.length_map]
  by_cases hn : n < (zs.length : Int)
  · rw [if_pos hn, decide_eq_true hn]
    simp (decide := true) only [EV, fnEnd, fin_d, take_all, optP]
  · rw [if_neg hn, decide_eq_false hn]
    simp (decide := true) only [EV]
    rcases for_all (S := S) (Γ := [some (.d (.str x)), some (.d (.int n)), some (.d (.list (zs.map .str))), none]) (tg := tNm 3) (b := sIte (sNot (sTru (sCall (run T (k + 1) "_law_is_key") [(sVar 3)]))) (sRet (sCon .none)) sSkip) (all := zs)
      PyData.str (fun y => isK (ts y)) (.d .none) (fun Γ => ∃ o, Γ = [some (.d (.str x)), some (.d (.int n)), some (.d (.list (zs.map .str))), o]) ⟨_, rfl⟩ (fun y hy Γ => by
      rintro ⟨o, rfl⟩
      refine ⟨_, rfl, ?_⟩
      simp (decide := true) only [EV, law_is_key_eq (k := k) (S := S) (show y.length ≤ 10000 from Nat.le_trans (hs.2 y hy) (by omega))]
      cases isK (ts y)
      · exact ⟨fun h => absurd h (by decide), fun _ => rfl⟩
      · exact ⟨fun h => ⟨_, .inl rfl, _, rfl⟩, fun h => absurd h (by decide)⟩) with ⟨h1, Γ3, h2, o, h3⟩ | ⟨h1, h2⟩
    · subst h3
      rw [h1, h2]
      simp (decide := true) only [EV, fnEnd, fin_d, take_all, optP, if_true]
    · rw [h1, h2]
      simp (decide := true) only [EV, fnEnd, fin_d, take_all, optP, if_false]
/-! ### spoilt texts -/
theorem rep_lenD {x y z : Str} (hx : x.length ≤ 1000) (hz : z.length ≤ 10) : dRep y z (.str x) = some (.str (Txt.replace x y z)) ∧ (Txt.replace x y z).length ≤ 20000 := by
  have h1 : (x.length + 1) * z.length ≤ (x.length + 1) * 10 := Nat.mul_le_mul_left _ hz
  have h2 := TK.replace_len x y z
  refine ⟨if_pos (by show _ ≤ 16777216; omega), by omega⟩
theorem sat_spoilt {k t : Nat} {x : Str} {S : Sto} (h : Tp S t) (hx : x.length ≤ 1000) : Gen t S (run T (k + 5) "_law_spoilt" [.o t, .d (.str x)] S) fun v => ∃ y, v = .d (.str y) ∧ y.length ≤ 1000000 := by
  rw [u_law_spoilt]
  refine Gen.end ?_
  unfold b_law_spoilt
  simp (decide := true) only [EV]
  refine Gen.then (Kp.refl h) (sat_draw h (by decide)) fun v S1 ⟨r, e, hr0, hr1⟩ hk => ?_
  subst e
  simp (decide := true) only [EV, l_sz hx]
  refine Gen.then hk (sat_draw hk.tp (by omega)) fun v S2 ⟨a, e, ha0, ha1⟩ hk => ?_
  subst e
  have lc : ∀ lo hi, (⟨(cutD x.cps.toList lo hi).toArray⟩ : Str).length ≤ x.length := fun lo hi => Nat.le_trans len_cut (Nat.le_of_eq (len_ts x).symm)
  by_cases h0 : r = 0
  · subst h0
    simp (decide := true) only [EV, v_slS, l_sz hx]
    refine Gen.then hk (sat_any_sign hk.tp) fun v S3 ⟨c, e, hc⟩ hk => ?_
    subst e
    simp (decide := true) only [EV]
    refine Sat_addS (by rw [len1]; have := lc none (some a); omega) fun w hw _ => ?_
    rw [len1] at hw
    simp (decide := true) only [EV, v_slS, l_sz hx]
    refine Sat_addS (by have := lc none (some a); have := lc (some (a + 1)) none; omega) fun w2 hw2 _ => ?_
    exact ⟨_, rfl, ⟨_, rfl, by have := lc none (some a); have := lc (some (a + 1)) none; omega⟩, hk⟩
  rw [decide_eq_false h0]
  by_cases h0 : r = 1
  · subst h0
    simp (decide := true) only [EV, v_slS, l_sz hx]
    refine Gen.then hk (sat_pickS hk.tp (by decide) (by decide)) fun v S3 ⟨c, e, hc⟩ hk => ?_
    subst e
    simp (decide := true) only [EV]
    refine Sat_addS (by rw [len1]; have := lc none (some a); omega) fun w hw _ => ?_
    rw [len1] at hw
    simp (decide := true) only [EV, v_slS, l_sz hx]
    refine Sat_addS (by have := lc none (some a); have := lc (some a) none; omega) fun w2 hw2 _ => ?_
    exact ⟨_, rfl, ⟨_, rfl, by have := lc none (some a); have := lc (some a) none; omega⟩, hk⟩
  simp (decide := true) only [EV, decide_eq_false h0]
  by_cases h0 : r = 2
  · subst h0
    simp (decide := true) only [EV, v_slS, l_sz hx]
    refine Sat_addS (by have := lc none (some a); have := lc (some (a + 1)) none; omega) fun w2 hw2 _ => ?_
    exact ⟨_, rfl, ⟨_, rfl, by have := lc none (some a); have := lc (some (a + 1)) none; omega⟩, hk⟩
  simp (decide := true) only [EV, decide_eq_false h0]
  have bnd : ∀ {u w : Str}, u.length + w.length ≤ 5000 → decide (u.length + w.length ≤ SZ) = true := fun h => decide_eq_true (Nat.le_trans h (by decide))
  have r1 := rep_lenD (x := x) (y := ".") (z := "..") hx (by decide)
  have r2 := rep_lenD (x := x) (y := ".") (z := " ") hx (by decide)
  have la : ∀ {u w : Str}, u.length + w.length ≤ 5000 → (u ++ w).length ≤ 1000000 := fun {u w} h => by rw [len_app]; omega
  have c1 : (Str.ofString ".").length = 1 := rfl
  have c2 : (Str.ofString " ").length = 1 := rfl
  have c3 : (Str.ofString ".abcdefghijklmnopq").length = 18 := rfl
  have c4 : (Str.ofString "abcdefghijklmnop.").length = 17 := rfl
  by_cases h0 : r = 3
  · subst h0
    simp (decide := true) only [EV, r1.1, r2.1, bnd (u := x) (w := Str.ofString ".") (by rw [show (Str.ofString ".").length = 1 from rfl]; omega), bnd (w := x) (u := Str.ofString ".") (by rw [show (Str.ofString ".").length = 1 from rfl]; omega)]
    refine Gen.then hk (sat_pickL hk.tp (by simp) (by simp)) fun v S3 ⟨d, e, hd⟩ hk => ?_
    subst e
    refine ⟨_, rfl, ?_, hk⟩
    simp only [List.mem_cons, List.mem_nil_iff, or_false] at hd
    rcases hd with rfl | rfl | rfl | rfl | rfl | rfl
    · exact ⟨_, rfl, la (by rw [c1]; omega)⟩
    · exact ⟨_, rfl, la (by rw [c1]; omega)⟩
    · exact ⟨_, rfl, Nat.le_trans r1.2 (by decide)⟩
    · exact ⟨_, rfl, Nat.le_trans r2.2 (by decide)⟩
    · exact ⟨_, rfl, by decide⟩
    · exact ⟨_, rfl, by decide⟩
  simp (decide := true) only [EV, decide_eq_false h0]
  by_cases h0 : r = 4
  · subst h0
    simp (decide := true) only [EV]
    refine Gen.then hk (sat_draw hk.tp (by decide)) fun v S3 ⟨b, e, hb0, hb1⟩ hk => ?_
    subst e
    simp (decide := true) only [EV]
    refine Gen.then hk (sat_text hk.tp (by omega) (by omega)) fun v S4 ⟨y, e, hy, _⟩ hk => ?_
    subst e
    exact ⟨_, rfl, ⟨y, rfl, by omega⟩, hk⟩
  simp (decide := true) only [EV, decide_eq_false h0]
  by_cases h0 : r = 5
  · subst h0
    simp (decide := true) only [EV, bnd (u := x) (w := Str.ofString " ") (by rw [c2]; omega), bnd (w := x) (u := Str.ofString " ") (by rw [c2]; omega), bnd (u := x) (w := Str.ofString ".abcdefghijklmnopq") (by rw [c3]; omega), bnd (w := x) (u := Str.ofString "abcdefghijklmnop.") (by rw [c4]; omega)]
    refine Gen.then hk (sat_pickL hk.tp (by simp) (by simp)) fun v S3 ⟨d, e, hd⟩ hk => ?_
    subst e
    refine ⟨_, rfl, ?_, hk⟩
    simp only [List.mem_cons, List.mem_nil_iff, or_false] at hd
    rcases hd with rfl | rfl | rfl | rfl
    · exact ⟨_, rfl, la (by rw [c2]; omega)⟩
    · exact ⟨_, rfl, la (by rw [c2]; omega)⟩
    · exact ⟨_, rfl, la (by rw [c3]; omega)⟩
    · exact ⟨_, rfl, la (by rw [c4]; omega)⟩
  simp (decide := true) only [EV, decide_eq_false h0]
  exact ⟨_, rfl, ⟨_, rfl, Nat.le_trans hx (by decide)⟩, hk⟩
/-! ### what is read -/
theorem isK_key {x : Str} (h : KeyS x) : isK (ts x) = true := by
  obtain ⟨c, r, e, h1, h2, h3⟩ := h
  rw [e, isK_c, decide_eq_true (show r.length < 16 by omega), decide_eq_true (show c ∈ ts LOW from h1), Bool.true_and, Bool.true_and, List.all_eq_true]
  have hs : ∀ d, d ∈ ts SIGS → d ∈ ts SGN := fun d hd => (show ∀ d ∈ ts SIGS, d ∈ ts SGN by decide +kernel) d hd
  intro d hd
  rcases List.mem_cons.mp hd with rfl | hd
  · exact decide_eq_true (hs _ ((show ∀ d ∈ ts LOWS, d ∈ ts SIGS by decide +kernel) _ h1))
  · exact decide_eq_true (hs _ (h3 d hd))
theorem nodot {x : Str} (h : KeyS x) : 46 ∉ ts x := fun hm => by
  obtain ⟨c, r, e, h1, h2, h3⟩ := h
  rw [e] at hm
  rcases List.mem_cons.mp hm with rfl | hm
  · exact absurd h1 (by decide +kernel)
  · exact absurd (h3 _ hm) (by decide +kernel)
theorem split_dot {p : List Str} (h0 : 0 < p.length) (h : ∀ z ∈ p, KeyS z) : Txt.split (Str.join DOT p) DOT = p := by
  have e := TL.split_join (y := DOT) (s := 46) (S := []) rfl (by decide +kernel) (parts := p) (fun e => by rw [e] at h0; exact absurd h0 (by decide)) fun z hz => nodot (h z hz)
  rwa [TL.join_eq] at e
theorem rdP_join {p : List Str} {n : Int} (h0 : 0 < p.length) (h : ∀ z ∈ p, KeyS z) (hn : (p.length : Int) ≤ n) : rdP (Str.join DOT p) n = some p := by
  unfold rdP
  rw [split_dot h0 h, if_neg (by omega), if_pos (List.all_eq_true.mpr fun z hz => isK_key (h z hz))]
end L2.Pv

set_option Elab.async false
set_option linter.all false
set_option maxRecDepth 100000
namespace L2.Pv
open PySem PySem.Spec PyProof.Rows L2
theorem show_path_eq {k : Nat} {p : List Str} {S : Sto} (h : ∀ z ∈ p, z.length ≤ 16) (hl : p.length ≤ 100) : run T (k + 1) "show_path" [.d (.tuple (p.map .str))] S = .ok (.d (.str (Str.join DOT p))) S := by
  rw [u_show_path]
  unfold b_show_path
  have hj : gJoin (.d (.str DOT)) [.d (.tuple (p.map .str))] S = .ok (.d (.str (Str.join DOT p))) S := j_joinT (n := 16) h (by rw [show DOT.length = 1 from rfl]; show _ ≤ 16777216; omega)
  have hj : gJoin (.d (.str (Str.ofString "."))) [.d (.tuple (p.map .str))] S = .ok (.d (.str (Str.join DOT p))) S := hj
  simp (decide := true) only [EV, hj, fnEnd, fin_d, take_all]
theorem plain_PTd {p : List Str} (h : p.length ≤ 900000) : Plain (.tuple (p.map .str)) ∧ (PyData.tuple (p.map .str)).depth ≤ 1 := by
  refine ⟨.tup _ (fun d hd => ?_) (by rw [List.length_map]; exact h), ?_⟩
  · obtain ⟨z, _, rfl⟩ := List.mem_map.mp hd
    exact .str z
  · have : ∀ l : List Str, PyData.depthAll (l.map .str) = 0 := fun l => by
      induction l with
      | nil => rfl
      | cons a r ih =>
        show max (PyData.depth (.str a)) (PyData.depthAll (r.map .str)) = 0
        rw [ih]
        rfl
    show PyData.depthAll (p.map .str) + 1 ≤ 1
    rw [this]
    decide
theorem plain_rd {x : Str} {n : Int} (h : x.length ≤ 5000) : Plain (optP (rdP x n)) ∧ (optP (rdP x n)).depth ≤ 1 := by
  unfold rdP
  split
  · exact ⟨.non, by decide⟩
  · split
    · exact plain_PTd (by have := (split_lenD (x := x)).1; omega)
    · exact ⟨.non, by decide⟩
theorem same1 {d : PyData} {S : Sto} (h : Plain d ∧ d.depth ≤ 1) : run T 39 "_law_same" [.d d, .d d] S = .ok (.d (.bool true)) S := same_self 2 (k := 36) h.1 (Nat.le_trans h.2 (by decide))
theorem law_true (ns : List Int) (hl : ns.length ≤ 63) : run T 40 "law" [.k (ns.map .int)] [] = .ok (.d (.bool true)) [] := by
  obtain ⟨S0, e, ht, hln⟩ := tape_ex (k := 38) ns
  refine R.Sat.eq ?_
  rw [u_law (k := 39), Sat_end]
  unfold b_law
  simp (decide := true) only [EV, e]
  refine Gen.then (t := 0) (Kp.refl ht) (sat_draw ht (by decide)) fun v S1 ⟨r, e, hr0, hr1⟩ hk => ?_
  subst e
  simp (decide := true) only [EV]
  refine Gen.then hk (sat_keys hk.tp (by omega) (by omega)) fun v S2 ⟨zs, e, hzl, hnd, hz⟩ hk => ?_
  subst e
  refine Gen.then hk (sat_path hk.tp (by omega) (by omega) (by decide) (by decide)) fun v S3 ⟨p, e, hp0, hp5, hp⟩ hk => ?_
  subst e
  have hkp : ∀ z ∈ p, KeyS z := fun z h => (hz z (hp z h)).1
  have h16 : ∀ z ∈ p, z.length ≤ 16 := fun z h => (hkp z h).len
  have hp5 : p.length ≤ 5 := by omega
  have hj : ∀ S, gJoin (.d (.str (Str.ofString "."))) [.d (.list (p.map .str))] S = .ok (.d (.str (Str.join DOT p))) S := fun S => j_joinG (a := DOT) (n := 16) h16 (by rw [show DOT.length = 1 from rfl]; show _ ≤ 16777216; omega)
  have hx : (Str.join DOT p).length ≤ 100 := by
    have h1 := (join_len DOT p).2 16 h16
    rw [show DOT.length = 1 from rfl] at h1
    have h2 : p.length * (16 + 1) ≤ 5 * (16 + 1) := Nat.mul_le_mul_right _ hp5
    omega
  generalize hxx : Str.join DOT p = x at hx hj
  have hpl : Plain (.str x) ∧ (PyData.str x).depth ≤ 1 := ⟨.str x, by show 0 ≤ 1; decide⟩
  have hpp := plain_PTd (p := p) (by omega)
  have hsh : ∀ S, run T 39 "show_path" [.d (.tuple (p.map .str))] S = .ok (.d (.str x)) S := fun S => hxx ▸ show_path_eq (k := 38) h16 (by omega)
  have hrd : ∀ S n, (p.length : Int) ≤ n → run T 39 "read_path" [.d (.str x), .d (.int n)] S = .ok (.d (.tuple (p.map .str))) S := fun S n hn => by
    rw [read_path_eq (k := 37) (Nat.le_trans hx (by decide)), ← hxx, rdP_join hp0 hkp hn]
    rfl
  simp (decide := true) only [EV, hj, hsh, same1 hpl, hrd _ 5 (by omega), same1 hpp]
  rw [rng_map]
  refine Sat_forC (fun _ Γ S => Kp 0 S3 S ∧ ∃ o5 o6 o7 o8, Γ = [some (.k (ns.map .int)), some (.o 0), some (.d (.list (zs.map .str))), some (.d (.tuple (p.map .str))), some (.d (.str x)), o5, o6, o7, o8]) ⟨Kp.refl hk.tp, _, _, _, _, rfl⟩ ?_ ?_
  · rintro j rest Γ S' hj ⟨hk, o5, o6, o7, o8, rfl⟩
    refine ⟨_, rfl, ?_⟩
    simp (decide := true) only [EV]
    refine Gen.then hk (sat_spoilt hk.tp (Nat.le_trans hx (by decide))) fun v S4 ⟨y, e, hy⟩ hk => ?_
    subst e
    refine Sat_slS (Nat.le_trans hy (by decide)) fun z hz1 hz2 => ?_
    have hz80 : z.length ≤ 80 := by
      rw [len_ts, hz2, cut_to (by decide)]
      exact List.length_take_le _ _
    refine Gen.then hk (sat_draw hk.tp (by decide)) fun v S5 ⟨a, e, ha0, ha1⟩ hk => ?_
    subst e
    simp (decide := true) only [EV]
    refine Gen.then hk (sat_draw hk.tp (by decide)) fun v S6 ⟨b, e, hb0, hb1⟩ hk => ?_
    subst e
    have hr : ∀ (r : R Fl) (Q : Fl → Sto → Prop), (r.bind fun fl S => .ok fl S).Sat Q → r.Sat Q := fun r Q h => by
      cases r with
      | ok a S => exact h
      | exc _ _ _ => exact h
      | bad => exact h
    refine hr _ _ ?_
    simp (decide := true) only [EV]
    rw [show [PyData.int (1 + a), PyData.int (1 + b), PyData.int (1 + a)] = [1 + a, 1 + b, 1 + a].map PyData.int from rfl]
    refine Sat_forC (fun _ Γ S => S = S6 ∧ ∃ o5 o7 o8, Γ = [some (.k (ns.map .int)), some (.o 0), some (.d (.list (zs.map .str))), some (.d (.tuple (p.map .str))), some (.d (.str x)), o5, some (.d (.str z)), o7, o8]) ⟨rfl, _, _, _, rfl⟩ ?_ ?_
    · rintro n rest2 Γ S' hn ⟨rfl, o5, o7, o8, rfl⟩
      refine ⟨_, rfl, ?_⟩
      simp (decide := true) only [EV, read_path_eq (k := 37) (x := z) (n := n) (S := S') (Nat.le_trans hz80 (by decide)), law_path_of_eq (k := 37) (x := z) (n := n) (S := S') (Nat.le_trans hz80 (by decide)), same1 (plain_rd (x := z) (n := n) (Nat.le_trans hz80 (by decide)))]
      exact ⟨rfl, _, _, _, rfl⟩
    · rintro Γ S' ⟨rfl, o5, o7, o8, rfl⟩
      exact ⟨hk, _, _, _, _, rfl⟩
  · rintro Γ S' ⟨hk, o5, o6, o7, o8, rfl⟩
    cases p with
    | nil => exact absurd hp0 (by decide)
    | cons y r =>
      have hs1 : ∀ S, run T 39 "show_path" [.d (.tuple [.str y])] S = .ok (.d (.str y)) S := fun S => by
        have e := show_path_eq (k := 38) (p := [y]) (S := S) (fun z hz => h16 z (by rw [List.mem_singleton.mp hz]; exact List.mem_cons_self)) (show 1 ≤ 100 by decide)
        exact e
      have hcut : cutD (PyData.str y :: r.map PyData.str) none (some 1) = [.str y] := by
        rw [cut_to (by decide)]
        rfl
      have hpl2 : Plain (.str y) ∧ (PyData.str y).depth ≤ 1 := ⟨.str y, by show 0 ≤ 1; decide⟩
      have e1 : run T 39 "read_path" [.d (.str x), .d (.int (((r.map PyData.str).length + 1 : Nat) : Int))] S' = .ok (.d (.tuple (PyData.str y :: r.map PyData.str))) S' := hrd S' _ (by rw [List.length_map, List.length_cons]; exact Int.le_refl _)
      have e2 : run T 39 "_law_same" [.d (.tuple (PyData.str y :: r.map PyData.str)), .d (.tuple (PyData.str y :: r.map PyData.str))] S' = .ok (.d (.bool true)) S' := same1 hpp
      simp (decide := true) only [EV, hcut, hs1, List.map_cons, same1 hpl2, e1, e2, fin_d]
      exact ⟨rfl, by rw [List.take_zero]⟩
end L2.Pv

set_option Elab.async false
set_option linter.all false
set_option maxRecDepth 100000
namespace L2.Pv
open PySem PySem.Spec PyProof.Rows L2
theorem look_mem {α : Type} {x : Str} {a : α} : ∀ {l : List (Str × α)}, l.lookup x = some a → (x, a) ∈ l
  | [], h => by simp at h
  | (y, b) :: r, h => by
    rw [List.lookup_cons] at h
    split at h
    · rename_i e
      have e2 : x = y := by simpa using e
      cases h
      rw [e2]
      exact List.mem_cons_self
    · exact List.mem_cons_of_mem _ (look_mem h)
theorem o_is_key : EntOk XT G GH e_is_key := ⟨fun call => by kernel_rfl, (fun h => nomatch h), ⟨rfl, rfl, rfl, by decide +kernel, rfl, by decide +kernel, by decide +kernel⟩⟩
theorem o_read_path : EntOk XT G GH e_read_path := ⟨fun call => by kernel_rfl, (fun h => nomatch h), ⟨rfl, rfl, rfl, by decide +kernel, rfl, by decide +kernel, by decide +kernel⟩⟩
theorem o_show_path : EntOk XT G GH e_show_path := ⟨fun call => by kernel_rfl, (fun h => nomatch h), ⟨rfl, rfl, rfl, by decide +kernel, rfl, by decide +kernel, by decide +kernel⟩⟩
theorem o_law_tape : EntOk XT G GH e_law_tape := ⟨fun call => by kernel_rfl, (fun h => nomatch h), ⟨rfl, rfl, rfl, by decide +kernel, rfl, by decide +kernel, by decide +kernel⟩⟩
theorem o_law_draw : EntOk XT G GH e_law_draw := ⟨fun call => by kernel_rfl, (fun h => nomatch h), ⟨rfl, rfl, rfl, by decide +kernel, rfl, by decide +kernel, by decide +kernel⟩⟩
theorem o_law_pick : EntOk XT G GH e_law_pick := ⟨fun call => by kernel_rfl, (fun h => nomatch h), ⟨rfl, rfl, rfl, by decide +kernel, rfl, by decide +kernel, by decide +kernel⟩⟩
theorem o_law_same : EntOk XT G GH e_law_same := ⟨fun call => by kernel_rfl, (fun h => nomatch h), ⟨rfl, rfl, rfl, by decide +kernel, rfl, by decide +kernel, by decide +kernel⟩⟩
theorem o_law_any_sign : EntOk XT G GH e_law_any_sign := ⟨fun call => by kernel_rfl, (fun h => nomatch h), ⟨rfl, rfl, rfl, by decide +kernel, rfl, by decide +kernel, by decide +kernel⟩⟩
theorem o_law_text : EntOk XT G GH e_law_text := ⟨fun call => by kernel_rfl, (fun h => nomatch h), ⟨rfl, rfl, rfl, by decide +kernel, rfl, by decide +kernel, by decide +kernel⟩⟩
theorem o_law_reserved : EntOk XT G GH e_law_reserved := ⟨fun call => by kernel_rfl, (fun h => nomatch h), ⟨rfl, rfl, rfl, by decide +kernel, rfl, by decide +kernel, by decide +kernel⟩⟩
theorem o_law_fresh : EntOk XT G GH e_law_fresh := ⟨fun call => by kernel_rfl, (fun h => nomatch h), ⟨rfl, rfl, rfl, by decide +kernel, rfl, by decide +kernel, by decide +kernel⟩⟩
theorem o_law_key : EntOk XT G GH e_law_key := ⟨fun call => by kernel_rfl, (fun h => nomatch h), ⟨rfl, rfl, rfl, by decide +kernel, rfl, by decide +kernel, by decide +kernel⟩⟩
theorem o_law_keys : EntOk XT G GH e_law_keys := ⟨fun call => by kernel_rfl, (fun h => nomatch h), ⟨rfl, rfl, rfl, by decide +kernel, rfl, by decide +kernel, by decide +kernel⟩⟩
theorem o_law_path : EntOk XT G GH e_law_path := ⟨fun call => by kernel_rfl, (fun h => nomatch h), ⟨rfl, rfl, rfl, by decide +kernel, rfl, by decide +kernel, by decide +kernel⟩⟩
theorem o_law_is_key : EntOk XT G GH e_law_is_key := ⟨fun call => by kernel_rfl, (fun h => nomatch h), ⟨rfl, rfl, rfl, by decide +kernel, rfl, by decide +kernel, by decide +kernel⟩⟩
theorem o_law_path_of : EntOk XT G GH e_law_path_of := ⟨fun call => by kernel_rfl, (fun h => nomatch h), ⟨rfl, rfl, rfl, by decide +kernel, rfl, by decide +kernel, by decide +kernel⟩⟩
theorem o_law_spoilt : EntOk XT G GH e_law_spoilt := ⟨fun call => by kernel_rfl, (fun h => nomatch h), ⟨rfl, rfl, rfl, by decide +kernel, rfl, by decide +kernel, by decide +kernel⟩⟩
theorem o_law : EntOk XT G GH e_law := ⟨fun call => by kernel_rfl, (fun h => nomatch h), ⟨rfl, rfl, rfl, by decide +kernel, rfl, by decide +kernel, by decide +kernel⟩⟩
set_option maxHeartbeats 0 in
theorem tab_mk {w : World} {K : PySem.W.Frag} {h : Heap} {mg : Str → Option Value} (X : K.In h) (G0 : h.Ns mainGlobals mg)
    {f0 f1 f2 f3 f4 f5 f6 f7 f8 f9 f10 f11 f12 f13 f14 f15 f16 f17 : Addr}
    {od0 an0 od1 an1 od2 an2 od3 an3 od4 an4 od5 an5 od6 an6 od7 an7 od8 an8 od9 an9 od10 an10 od11 an11 od12 an12 od13 an13 od14 an14 od15 an15 od16 an16 od17 an17 : Option Addr}
    {sl0 sl1 sl2 sl3 sl4 sl5 sl6 sl7 sl8 sl9 sl10 sl11 sl12 sl13 sl14 sl15 sl16 sl17 : Array (Option Value)}
    {oc0 kV0 dc0 pm0 cd0 ct0 oc1 kV1 dc1 pm1 cd1 ct1 oc2 kV2 dc2 pm2 cd2 ct2 oc3 kV3 dc3 pm3 cd3 ct3 oc4 kV4 dc4 pm4 cd4 ct4 oc5 kV5 dc5 pm5 cd5 ct5 oc6 kV6 dc6 pm6 cd6 ct6 oc7 kV7 dc7 pm7 cd7 ct7 oc8 kV8 dc8 pm8 cd8 ct8 oc9 kV9 dc9 pm9 cd9 ct9 oc10 kV10 dc10 pm10 cd10 ct10 oc11 kV11 dc11 pm11 cd11 ct11 oc12 kV12 dc12 pm12 cd12 ct12 oc13 kV13 dc13 pm13 cd13 ct13 oc14 kV14 dc14 pm14 cd14 ct14 oc15 kV15 dc15 pm15 cd15 ct15 oc16 kV16 dc16 pm16 cd16 ct16 oc17 kV17 dc17 pm17 cd17 ct17 : Value}
    {t0 : Tok}
    {t1 : Tok}
    {t2 : Tok}
    (a0 : PySem.W.nsIn K mainGlobals "is_key" = some (some (.ref f0))) (l0 : K.lookup f0 = some ⟨oc0, od0, .func (PySem.W.fnOf "is_key" "is_key" (defArgs (topS 4)) (defBody (topS 4)) (defScope (topS 4)) .none kV0 dc0 pm0 an0 cd0 ct0), sl0⟩) (c0 : PySem.W.codeIn K cd0 "is_key" = true) (k0 : PySem.W.keepIn K (.ref f0) = true)
    (a1 : PySem.W.nsIn K mainGlobals "read_path" = some (some (.ref f1))) (l1 : K.lookup f1 = some ⟨oc1, od1, .func (PySem.W.fnOf "read_path" "read_path" (defArgs (topS 5)) (defBody (topS 5)) (defScope (topS 5)) .none kV1 dc1 pm1 an1 cd1 ct1), sl1⟩) (c1 : PySem.W.codeIn K cd1 "read_path" = true) (k1 : PySem.W.keepIn K (.ref f1) = true)
    (a2 : PySem.W.nsIn K mainGlobals "show_path" = some (some (.ref f2))) (l2 : K.lookup f2 = some ⟨oc2, od2, .func (PySem.W.fnOf "show_path" "show_path" (defArgs (topS 6)) (defBody (topS 6)) (defScope (topS 6)) .none kV2 dc2 pm2 an2 cd2 ct2), sl2⟩) (c2 : PySem.W.codeIn K cd2 "show_path" = true) (k2 : PySem.W.keepIn K (.ref f2) = true)
    (a3 : PySem.W.nsIn K mainGlobals "_law_tape" = some (some (.ref f3))) (l3 : K.lookup f3 = some ⟨oc3, od3, .func (PySem.W.fnOf "_law_tape" "_law_tape" (defArgs (topS 8)) (defBody (topS 8)) (defScope (topS 8)) .none kV3 dc3 pm3 an3 cd3 ct3), sl3⟩) (c3 : PySem.W.codeIn K cd3 "_law_tape" = true) (k3 : PySem.W.keepIn K (.ref f3) = true)
    (a4 : PySem.W.nsIn K mainGlobals "_law_draw" = some (some (.ref f4))) (l4 : K.lookup f4 = some ⟨oc4, od4, .func (PySem.W.fnOf "_law_draw" "_law_draw" (defArgs (topS 9)) (defBody (topS 9)) (defScope (topS 9)) .none kV4 dc4 pm4 an4 cd4 ct4), sl4⟩) (c4 : PySem.W.codeIn K cd4 "_law_draw" = true) (k4 : PySem.W.keepIn K (.ref f4) = true)
    (a5 : PySem.W.nsIn K mainGlobals "_law_pick" = some (some (.ref f5))) (l5 : K.lookup f5 = some ⟨oc5, od5, .func (PySem.W.fnOf "_law_pick" "_law_pick" (defArgs (topS 10)) (defBody (topS 10)) (defScope (topS 10)) .none kV5 dc5 pm5 an5 cd5 ct5), sl5⟩) (c5 : PySem.W.codeIn K cd5 "_law_pick" = true) (k5 : PySem.W.keepIn K (.ref f5) = true)
    (a6 : PySem.W.nsIn K mainGlobals "_law_same" = some (some (.ref f6))) (l6 : K.lookup f6 = some ⟨oc6, od6, .func (PySem.W.fnOf "_law_same" "_law_same" (defArgs (topS 11)) (defBody (topS 11)) (defScope (topS 11)) .none kV6 dc6 pm6 an6 cd6 ct6), sl6⟩) (c6 : PySem.W.codeIn K cd6 "_law_same" = true) (k6 : PySem.W.keepIn K (.ref f6) = true)
    (a7 : PySem.W.nsIn K mainGlobals "_law_any_sign" = some (some (.ref f7))) (l7 : K.lookup f7 = some ⟨oc7, od7, .func (PySem.W.fnOf "_law_any_sign" "_law_any_sign" (defArgs (topS 12)) (defBody (topS 12)) (defScope (topS 12)) .none kV7 dc7 pm7 an7 cd7 ct7), sl7⟩) (c7 : PySem.W.codeIn K cd7 "_law_any_sign" = true) (k7 : PySem.W.keepIn K (.ref f7) = true)
    (a8 : PySem.W.nsIn K mainGlobals "_law_text" = some (some (.ref f8))) (l8 : K.lookup f8 = some ⟨oc8, od8, .func (PySem.W.fnOf "_law_text" "_law_text" (defArgs (topS 13)) (defBody (topS 13)) (defScope (topS 13)) .none kV8 dc8 pm8 an8 cd8 ct8), sl8⟩) (c8 : PySem.W.codeIn K cd8 "_law_text" = true) (k8 : PySem.W.keepIn K (.ref f8) = true)
    (a9 : PySem.W.nsIn K mainGlobals "_law_reserved" = some (some (.ref f9))) (l9 : K.lookup f9 = some ⟨oc9, od9, .func (PySem.W.fnOf "_law_reserved" "_law_reserved" (defArgs (topS 14)) (defBody (topS 14)) (defScope (topS 14)) .none kV9 dc9 pm9 an9 cd9 ct9), sl9⟩) (c9 : PySem.W.codeIn K cd9 "_law_reserved" = true) (k9 : PySem.W.keepIn K (.ref f9) = true)
    (a10 : PySem.W.nsIn K mainGlobals "_law_fresh" = some (some (.ref f10))) (l10 : K.lookup f10 = some ⟨oc10, od10, .func (PySem.W.fnOf "_law_fresh" "_law_fresh" (defArgs (topS 15)) (defBody (topS 15)) (defScope (topS 15)) .none kV10 dc10 pm10 an10 cd10 ct10), sl10⟩) (c10 : PySem.W.codeIn K cd10 "_law_fresh" = true) (k10 : PySem.W.keepIn K (.ref f10) = true)
    (a11 : PySem.W.nsIn K mainGlobals "_law_key" = some (some (.ref f11))) (l11 : K.lookup f11 = some ⟨oc11, od11, .func (PySem.W.fnOf "_law_key" "_law_key" (defArgs (topS 16)) (defBody (topS 16)) (defScope (topS 16)) .none kV11 dc11 pm11 an11 cd11 ct11), sl11⟩) (c11 : PySem.W.codeIn K cd11 "_law_key" = true) (k11 : PySem.W.keepIn K (.ref f11) = true)
    (a12 : PySem.W.nsIn K mainGlobals "_law_keys" = some (some (.ref f12))) (l12 : K.lookup f12 = some ⟨oc12, od12, .func (PySem.W.fnOf "_law_keys" "_law_keys" (defArgs (topS 17)) (defBody (topS 17)) (defScope (topS 17)) .none kV12 dc12 pm12 an12 cd12 ct12), sl12⟩) (c12 : PySem.W.codeIn K cd12 "_law_keys" = true) (k12 : PySem.W.keepIn K (.ref f12) = true)
    (a13 : PySem.W.nsIn K mainGlobals "_law_path" = some (some (.ref f13))) (l13 : K.lookup f13 = some ⟨oc13, od13, .func (PySem.W.fnOf "_law_path" "_law_path" (defArgs (topS 18)) (defBody (topS 18)) (defScope (topS 18)) .none kV13 dc13 pm13 an13 cd13 ct13), sl13⟩) (c13 : PySem.W.codeIn K cd13 "_law_path" = true) (k13 : PySem.W.keepIn K (.ref f13) = true)
    (a14 : PySem.W.nsIn K mainGlobals "_law_is_key" = some (some (.ref f14))) (l14 : K.lookup f14 = some ⟨oc14, od14, .func (PySem.W.fnOf "_law_is_key" "_law_is_key" (defArgs (topS 19)) (defBody (topS 19)) (defScope (topS 19)) .none kV14 dc14 pm14 an14 cd14 ct14), sl14⟩) (c14 : PySem.W.codeIn K cd14 "_law_is_key" = true) (k14 : PySem.W.keepIn K (.ref f14) = true)
    (a15 : PySem.W.nsIn K mainGlobals "_law_path_of" = some (some (.ref f15))) (l15 : K.lookup f15 = some ⟨oc15, od15, .func (PySem.W.fnOf "_law_path_of" "_law_path_of" (defArgs (topS 20)) (defBody (topS 20)) (defScope (topS 20)) .none kV15 dc15 pm15 an15 cd15 ct15), sl15⟩) (c15 : PySem.W.codeIn K cd15 "_law_path_of" = true) (k15 : PySem.W.keepIn K (.ref f15) = true)
    (a16 : PySem.W.nsIn K mainGlobals "_law_spoilt" = some (some (.ref f16))) (l16 : K.lookup f16 = some ⟨oc16, od16, .func (PySem.W.fnOf "_law_spoilt" "_law_spoilt" (defArgs (topS 21)) (defBody (topS 21)) (defScope (topS 21)) .none kV16 dc16 pm16 an16 cd16 ct16), sl16⟩) (c16 : PySem.W.codeIn K cd16 "_law_spoilt" = true) (k16 : PySem.W.keepIn K (.ref f16) = true)
    (a17 : PySem.W.nsIn K mainGlobals "law" = some (some (.ref f17))) (l17 : K.lookup f17 = some ⟨oc17, od17, .func (PySem.W.fnOf "law" "law" (defArgs (topS 22)) (defBody (topS 22)) (defScope (topS 22)) .none kV17 dc17 pm17 an17 cd17 ct17), sl17⟩) (c17 : PySem.W.codeIn K cd17 "law" = true) (k17 : PySem.W.keepIn K (.ref f17) = true)
    (q0 : PySem.W.nsIn K mainGlobals "LETTERS" = some (some (.str "abcdefghijklmnopqrstuvwxyz" t0)))
    (q1 : PySem.W.nsIn K mainGlobals "KEY_SIGNS" = some (some (.str "-0123456789ABCDEFGHIJKLMNOPQRSTUVWXYZabcdefghijklmnopqrstuvwxyz" t1)))
    (q2 : PySem.W.nsIn K mainGlobals "MOST_KEY_SIGNS" = some (some (.int 16 t2)))
    (z0 : PySem.W.nsIn K mainGlobals "all" = some none)
    (z1 : PySem.W.nsIn K mainGlobals "len" = some none)
    (z2 : PySem.W.nsIn K mainGlobals "tuple" = some none)
    (z3 : PySem.W.nsIn K mainGlobals "list" = some none)
    (z4 : PySem.W.nsIn K mainGlobals "int" = some none)
    (z5 : PySem.W.nsIn K mainGlobals "abs" = some none)
    (z6 : PySem.W.nsIn K mainGlobals "max" = some none)
    (z7 : PySem.W.nsIn K mainGlobals "isinstance" = some none)
    (z8 : PySem.W.nsIn K mainGlobals "str" = some none)
    (z9 : PySem.W.nsIn K mainGlobals "bool" = some none)
    (z10 : PySem.W.nsIn K mainGlobals "range" = some none) : TabOk ⟨K, w⟩ mg XT G GH T where
  st := by
    intro e he
    simp only [T, List.mem_cons, List.mem_nil_iff, or_false] at he
    rcases he with rfl | rfl | rfl | rfl | rfl | rfl | rfl | rfl | rfl | rfl | rfl | rfl | rfl | rfl | rfl | rfl | rfl | rfl
    · exact o_is_key
    · exact o_read_path
    · exact o_show_path
    · exact o_law_tape
    · exact o_law_draw
    · exact o_law_pick
    · exact o_law_same
    · exact o_law_any_sign
    · exact o_law_text
    · exact o_law_reserved
    · exact o_law_fresh
    · exact o_law_key
    · exact o_law_keys
    · exact o_law_path
    · exact o_law_is_key
    · exact o_law_path_of
    · exact o_law_spoilt
    · exact o_law
  fn := by
    intro e he
    simp only [T, List.mem_cons, List.mem_nil_iff, or_false] at he
    rcases he with rfl | rfl | rfl | rfl | rfl | rfl | rfl | rfl | rfl | rfl | rfl | rfl | rfl | rfl | rfl | rfl | rfl | rfl
    · exact ⟨f0, _, fun_mk (st := topS 4) l0 c0 k0, PySem.W.mg_of X G0 a0, (fun_mk (st := topS 4) l0 c0 k0).binds (ps := ["text"]) fun _ _ _ _ _ _ us hl => match us, hl with | [_], _ => rfl⟩
    · exact ⟨f1, _, fun_mk (st := topS 5) l1 c1 k1, PySem.W.mg_of X G0 a1, (fun_mk (st := topS 5) l1 c1 k1).binds (ps := ["text", "most"]) fun _ _ _ _ _ _ us hl => match us, hl with | [_, _], _ => rfl⟩
    · exact ⟨f2, _, fun_mk (st := topS 6) l2 c2 k2, PySem.W.mg_of X G0 a2, (fun_mk (st := topS 6) l2 c2 k2).binds (ps := ["path"]) fun _ _ _ _ _ _ us hl => match us, hl with | [_], _ => rfl⟩
    · exact ⟨f3, _, fun_mk (st := topS 8) l3 c3 k3, PySem.W.mg_of X G0 a3, (fun_mk (st := topS 8) l3 c3 k3).binds (ps := ["script"]) fun _ _ _ _ _ _ us hl => match us, hl with | [_], _ => rfl⟩
    · exact ⟨f4, _, fun_mk (st := topS 9) l4 c4 k4, PySem.W.mg_of X G0 a4, (fun_mk (st := topS 9) l4 c4 k4).binds (ps := ["tape", "many"]) fun _ _ _ _ _ _ us hl => match us, hl with | [_, _], _ => rfl⟩
    · exact ⟨f5, _, fun_mk (st := topS 10) l5 c5 k5, PySem.W.mg_of X G0 a5, (fun_mk (st := topS 10) l5 c5 k5).binds (ps := ["tape", "row"]) fun _ _ _ _ _ _ us hl => match us, hl with | [_, _], _ => rfl⟩
    · exact ⟨f6, _, fun_mk (st := topS 11) l6 c6 k6, PySem.W.mg_of X G0 a6, (fun_mk (st := topS 11) l6 c6 k6).binds (ps := ["actual", "expected"]) fun _ _ _ _ _ _ us hl => match us, hl with | [_, _], _ => rfl⟩
    · exact ⟨f7, _, fun_mk (st := topS 12) l7 c7 k7, PySem.W.mg_of X G0 a7, (fun_mk (st := topS 12) l7 c7 k7).binds (ps := ["tape"]) fun _ _ _ _ _ _ us hl => match us, hl with | [_], _ => rfl⟩
    · exact ⟨f8, _, fun_mk (st := topS 13) l8 c8 k8, PySem.W.mg_of X G0 a8, (fun_mk (st := topS 13) l8 c8 k8).binds (ps := ["tape", "many"]) fun _ _ _ _ _ _ us hl => match us, hl with | [_, _], _ => rfl⟩
    · exact ⟨f9, _, fun_mk (st := topS 14) l9 c9 k9, PySem.W.mg_of X G0 a9, (fun_mk (st := topS 14) l9 c9 k9).binds (ps := []) fun _ _ _ _ _ _ us hl => match us, hl with | [], _ => rfl⟩
    · exact ⟨f10, _, fun_mk (st := topS 15) l10 c10 k10, PySem.W.mg_of X G0 a10, (fun_mk (st := topS 15) l10 c10 k10).binds (ps := ["key", "keys"]) fun _ _ _ _ _ _ us hl => match us, hl with | [_, _], _ => rfl⟩
    · exact ⟨f11, _, fun_mk (st := topS 16) l11 c11 k11, PySem.W.mg_of X G0 a11, (fun_mk (st := topS 16) l11 c11 k11).binds (ps := ["tape", "stem"]) fun _ _ _ _ _ _ us hl => match us, hl with | [_, _], _ => rfl⟩
    · exact ⟨f12, _, fun_mk (st := topS 17) l12 c12 k12, PySem.W.mg_of X G0 a12, (fun_mk (st := topS 17) l12 c12 k12).binds (ps := ["tape", "many"]) fun _ _ _ _ _ _ us hl => match us, hl with | [_, _], _ => rfl⟩
    · exact ⟨f13, _, fun_mk (st := topS 18) l13 c13 k13, PySem.W.mg_of X G0 a13, (fun_mk (st := topS 18) l13 c13 k13).binds (ps := ["tape", "keys", "most"]) fun _ _ _ _ _ _ us hl => match us, hl with | [_, _, _], _ => rfl⟩
    · exact ⟨f14, _, fun_mk (st := topS 19) l14 c14 k14, PySem.W.mg_of X G0 a14, (fun_mk (st := topS 19) l14 c14 k14).binds (ps := ["text"]) fun _ _ _ _ _ _ us hl => match us, hl with | [_], _ => rfl⟩
    · exact ⟨f15, _, fun_mk (st := topS 20) l15 c15 k15, PySem.W.mg_of X G0 a15, (fun_mk (st := topS 20) l15 c15 k15).binds (ps := ["text", "most"]) fun _ _ _ _ _ _ us hl => match us, hl with | [_, _], _ => rfl⟩
    · exact ⟨f16, _, fun_mk (st := topS 21) l16 c16 k16, PySem.W.mg_of X G0 a16, (fun_mk (st := topS 21) l16 c16 k16).binds (ps := ["tape", "text"]) fun _ _ _ _ _ _ us hl => match us, hl with | [_, _], _ => rfl⟩
    · exact ⟨f17, _, fun_mk (st := topS 22) l17 c17 k17, PySem.W.mg_of X G0 a17, (fun_mk (st := topS 22) l17 c17 k17).binds (ps := ["script"]) fun _ _ _ _ _ _ us hl => match us, hl with | [_], _ => rfl⟩
  gl := fun x b e => by
    have e2 := look_mem e
    simp only [G, List.mem_cons, List.mem_nil_iff, or_false, Prod.mk.injEq, reduceCtorEq, and_false, false_or, GE.blt.injEq] at e2
    rcases e2 with ⟨rfl, rfl⟩ | ⟨rfl, rfl⟩ | ⟨rfl, rfl⟩ | ⟨rfl, rfl⟩ | ⟨rfl, rfl⟩ | ⟨rfl, rfl⟩ | ⟨rfl, rfl⟩ | ⟨rfl, rfl⟩ | ⟨rfl, rfl⟩ | ⟨rfl, rfl⟩ | ⟨rfl, rfl⟩
    · exact ⟨PySem.W.mg_none_of X G0 z0, rfl⟩
    · exact ⟨PySem.W.mg_none_of X G0 z1, rfl⟩
    · exact ⟨PySem.W.mg_none_of X G0 z2, rfl⟩
    · exact ⟨PySem.W.mg_none_of X G0 z3, rfl⟩
    · exact ⟨PySem.W.mg_none_of X G0 z4, rfl⟩
    · exact ⟨PySem.W.mg_none_of X G0 z5, rfl⟩
    · exact ⟨PySem.W.mg_none_of X G0 z6, rfl⟩
    · exact ⟨PySem.W.mg_none_of X G0 z7, rfl⟩
    · exact ⟨PySem.W.mg_none_of X G0 z8, rfl⟩
    · exact ⟨PySem.W.mg_none_of X G0 z9, rfl⟩
    · exact ⟨PySem.W.mg_none_of X G0 z10, rfl⟩
  gc := fun x d e => by
    have e2 := look_mem e
    simp only [G, List.mem_cons, List.mem_nil_iff, or_false, Prod.mk.injEq, reduceCtorEq, and_false, false_or, GE.con.injEq] at e2
    rcases e2 with ⟨rfl, rfl⟩ | ⟨rfl, rfl⟩ | ⟨rfl, rfl⟩
    · exact ⟨_, .str "abcdefghijklmnopqrstuvwxyz", PySem.W.mg_of X G0 q0, ⟨_, rfl⟩, .str _ (strOk_of _)⟩
    · exact ⟨_, .str "-0123456789ABCDEFGHIJKLMNOPQRSTUVWXYZabcdefghijklmnopqrstuvwxyz", PySem.W.mg_of X G0 q1, ⟨_, rfl⟩, .str _ (strOk_of _)⟩
    · exact ⟨_, .int _, PySem.W.mg_of X G0 q2, ⟨_, rfl⟩, .int _⟩
  gf := fun x n e => by
    have e2 := look_mem e
    simp only [G, List.mem_cons, List.mem_nil_iff, or_false, Prod.mk.injEq, reduceCtorEq, and_false, false_or, GE.fn.injEq] at e2
    rcases e2 with ⟨rfl, rfl⟩ | ⟨rfl, rfl⟩ | ⟨rfl, rfl⟩ | ⟨rfl, rfl⟩ | ⟨rfl, rfl⟩ | ⟨rfl, rfl⟩ | ⟨rfl, rfl⟩ | ⟨rfl, rfl⟩ | ⟨rfl, rfl⟩ | ⟨rfl, rfl⟩ | ⟨rfl, rfl⟩ | ⟨rfl, rfl⟩ | ⟨rfl, rfl⟩ | ⟨rfl, rfl⟩ | ⟨rfl, rfl⟩ | ⟨rfl, rfl⟩ | ⟨rfl, rfl⟩ | ⟨rfl, rfl⟩
    · exact ⟨e_is_key, by kernel_rfl, rfl, rfl⟩
    · exact ⟨e_read_path, by kernel_rfl, rfl, rfl⟩
    · exact ⟨e_show_path, by kernel_rfl, rfl, rfl⟩
    · exact ⟨e_law_tape, by kernel_rfl, rfl, rfl⟩
    · exact ⟨e_law_draw, by kernel_rfl, rfl, rfl⟩
    · exact ⟨e_law_pick, by kernel_rfl, rfl, rfl⟩
    · exact ⟨e_law_same, by kernel_rfl, rfl, rfl⟩
    · exact ⟨e_law_any_sign, by kernel_rfl, rfl, rfl⟩
    · exact ⟨e_law_text, by kernel_rfl, rfl, rfl⟩
    · exact ⟨e_law_reserved, by kernel_rfl, rfl, rfl⟩
    · exact ⟨e_law_fresh, by kernel_rfl, rfl, rfl⟩
    · exact ⟨e_law_key, by kernel_rfl, rfl, rfl⟩
    · exact ⟨e_law_keys, by kernel_rfl, rfl, rfl⟩
    · exact ⟨e_law_path, by kernel_rfl, rfl, rfl⟩
    · exact ⟨e_law_is_key, by kernel_rfl, rfl, rfl⟩
    · exact ⟨e_law_path_of, by kernel_rfl, rfl, rfl⟩
    · exact ⟨e_law_spoilt, by kernel_rfl, rfl, rfl⟩
    · exact ⟨e_law, by kernel_rfl, rfl, rfl⟩
  gk := fun x n ks e => by
    have e2 := look_mem e
    simp only [G, List.mem_cons, List.mem_nil_iff, or_false, Prod.mk.injEq, reduceCtorEq, and_false, false_or, GE.fk.injEq] at e2
  gh := fun x g e => by
    have e2 := look_mem e
    simp only [GH, List.mem_cons, List.mem_nil_iff, or_false, Prod.mk.injEq] at e2
    rcases e2 with ⟨rfl, rfl⟩ | ⟨rfl, rfl⟩ | ⟨rfl, rfl⟩ | ⟨rfl, rfl⟩ | ⟨rfl, rfl⟩ | ⟨rfl, rfl⟩ | ⟨rfl, rfl⟩ | ⟨rfl, rfl⟩ | ⟨rfl, rfl⟩ | ⟨rfl, rfl⟩ | ⟨rfl, rfl⟩
    all_goals kernel_rfl
  hf := fun x n e e' he => by
    have e2 := look_mem e
    simp only [GH, List.mem_cons, List.mem_nil_iff, or_false, Prod.mk.injEq, reduceCtorEq, and_false, false_or, GE.fn.injEq] at e2
  hk := fun x n ks e e' he => by
    have e2 := look_mem e
    simp only [GH, List.mem_cons, List.mem_nil_iff, or_false, Prod.mk.injEq, reduceCtorEq, and_false, false_or] at e2
theorem xt_mk {w : World} {K : PySem.W.Frag} {h : Heap} {mg : Str → Option Value} (X : K.In h) (G0 : h.Ns mainGlobals mg) (base : Heap) : XtOk PySem.Challenge.pw_hookcheck_k03_paths_are_read w K mg base XT := ⟨fun h => absurd rfl h, fun h => absurd rfl h, fun c q h => nomatch h⟩
theorem all_mk {P : Program} {w : World} {K : PySem.W.Frag} {h : Heap} {mg : Str → Option Value} {fa : Addr} (X : K.In h) (G0 : h.Ns mainGlobals mg) (hfa : mg "law" = some (.ref fa)) (tab : TabOk ⟨K, w⟩ mg XT G GH T) (xo : ∀ base, XtOk P w K mg base XT) :
    ∃ fd : FuncData, (∀ (s : Shared) (v : Value), BindsTo s fd ⟨[v], []⟩ [("script", v)]) ∧ ∀ base : Heap, K.In base → base.Ns mainGlobals mg → FnOk P w K mg base (L2N.CX P w) (2 * 40) fa fd ["script"] (spLaw T 40 K w) := by
  have e : entAt T "law" = some e_law := by kernel_rfl
  obtain ⟨f, fd, h1, _, _, h4, _⟩ := fn_all (P := P) (w := w) (base := h) (xo h) tab 40 "law" e_law e
  rw [hfa] at h1
  cases h1
  obtain ⟨oc, od, kV, doc, pm, an, cdv, ct, osl, rfl, lk, hcd⟩ := h4.ex
  refine ⟨PySem.W.fnOf "law" "law" (defArgs (topS 22)) (defBody (topS 22)) (defScope (topS 22)) .none kV doc pm an cdv ct, fun s v => .of_eq rfl, fun base _ _ => ?_⟩
  obtain ⟨f2, fd2, g1, _, _, g4, g5, _⟩ := fn_all (P := P) (w := w) (base := base) (xo base) tab 40 "law" e_law e
  rw [hfa] at g1
  cases g1
  obtain ⟨oc2, od2, kV2, doc2, pm2, an2, cdv2, ct2, osl2, rfl, lk2, hcd2⟩ := g4.ex
  rw [lk] at lk2
  cases lk2
  exact fn_law g5
end L2.Pv
open PySem PySem.W PyProof.Rows
set_option maxHeartbeats 0 in
theorem PySem.Challenge.cw_hookcheck_k03_paths_are_read_holds : PySem.Challenge.rw_hookcheck_k03_paths_are_read.Holds := by
  w_on; o_law; k_head; (case hw => w_witness2)
  k_fill
  refine L2.walk_of (l := PySem.Challenge.rw_hookcheck_k03_paths_are_read) (n := 63) (k := 2 * 40) (x := "script") (CX := fun w => L2N.CX PySem.Challenge.pw_hookcheck_k03_paths_are_read w) (sp := fun w => L2.Pv.spLaw L2.Pv.T 40 _ w) rfl (by decide) rfl ⟨rfl, by decide, by decide⟩ (fun w h Y => PySem.W.kIn_of Y) ?F (fun _ _ a ns hl _ hS => fun mg => L2.Pv.law_sp hS (L2.Pv.law_true ns hl)) (fun _ _ _ _ _ h => L2.Pv.cx_never h)
  case F =>
    intro w mg fa h KX G0 hmg
    refine' L2.Pv.all_mk KX G0 hmg (L2.Pv.tab_mk KX G0 ?a0 ?l0 ?c0 ?k0 ?a1 ?l1 ?c1 ?k1 ?a2 ?l2 ?c2 ?k2 ?a3 ?l3 ?c3 ?k3 ?a4 ?l4 ?c4 ?k4 ?a5 ?l5 ?c5 ?k5 ?a6 ?l6 ?c6 ?k6 ?a7 ?l7 ?c7 ?k7 ?a8 ?l8 ?c8 ?k8 ?a9 ?l9 ?c9 ?k9 ?a10 ?l10 ?c10 ?k10 ?a11 ?l11 ?c11 ?k11 ?a12 ?l12 ?c12 ?k12 ?a13 ?l13 ?c13 ?k13 ?a14 ?l14 ?c14 ?k14 ?a15 ?l15 ?c15 ?k15 ?a16 ?l16 ?c16 ?k16 ?a17 ?l17 ?c17 ?k17 ?q0 ?q1 ?q2 ?z0 ?z1 ?z2 ?z3 ?z4 ?z5 ?z6 ?z7 ?z8 ?z9 ?z10) (L2.Pv.xt_mk KX G0 )
    (case a0 => k_is); (case l0 => k_is); (case c0 => k_is); (case k0 => k_is); (case a1 => k_is); (case l1 => k_is); (case c1 => k_is); (case k1 => k_is); (case a2 => k_is); (case l2 => k_is); (case c2 => k_is); (case k2 => k_is); (case a3 => k_is); (case l3 => k_is); (case c3 => k_is); (case k3 => k_is); (case a4 => k_is); (case l4 => k_is); (case c4 => k_is); (case k4 => k_is); (case a5 => k_is); (case l5 => k_is); (case c5 => k_is); (case k5 => k_is); (case a6 => k_is); (case l6 => k_is); (case c6 => k_is); (case k6 => k_is); (case a7 => k_is); (case l7 => k_is); (case c7 => k_is); (case k7 => k_is); (case a8 => k_is); (case l8 => k_is); (case c8 => k_is); (case k8 => k_is); (case a9 => k_is); (case l9 => k_is); (case c9 => k_is); (case k9 => k_is); (case a10 => k_is); (case l10 => k_is); (case c10 => k_is); (case k10 => k_is); (case a11 => k_is); (case l11 => k_is); (case c11 => k_is); (case k11 => k_is); (case a12 => k_is); (case l12 => k_is); (case c12 => k_is); (case k12 => k_is); (case a13 => k_is); (case l13 => k_is); (case c13 => k_is); (case k13 => k_is); (case a14 => k_is); (case l14 => k_is); (case c14 => k_is); (case k14 => k_is); (case a15 => k_is); (case l15 => k_is); (case c15 => k_is); (case k15 => k_is); (case a16 => k_is); (case l16 => k_is); (case c16 => k_is); (case k16 => k_is); (case a17 => k_is); (case l17 => k_is); (case c17 => k_is); (case k17 => k_is); (case q0 => k_is); (case q1 => k_is); (case q2 => k_is); (case z0 => k_is); (case z1 => k_is); (case z2 => k_is); (case z3 => k_is); (case z4 => k_is); (case z5 => k_is); (case z6 => k_is); (case z7 => k_is); (case z8 => k_is); (case z9 => k_is); (case z10 => k_is)
    

