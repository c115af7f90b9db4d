import PyProof.Rows.All
import HandS.ForMost
import HandS.IsInst
import HandS.TupAny
import HandS.Deep
import HandS.Conv
import KE.KDictKeyed
import KE.DataEq
import KE.DataCmp
import HandS.StrMore
import HandS.Wide
import HandS.TupLen
import HandS.Style
import KE.GoesEnum
import HandS.Rev
import HandS.Zip
import HandS.Strs
import KE.SortData
import HandS.Defaults
import PyProof.DictDisplay
import PySem.Challenge.RW_hookcheck_k78_whole_certificates
set_option Elab.async false
set_option linter.all false
set_option maxRecDepth 100000
/-! Pt0: tuples that are made, kept with their object (it has no dict). -/
namespace L2.Pv
open PySem PySem.Spec PyProof.Rows L2
def TF (o : Obj) : Prop := o.cls = .type "tuple" ∧ o.dict = none
section
variable {X : Cx} {es : List Expr} {t : TA} {pos : Pos}
def tTupF (ta : TA) : TE := fun σ H Q => ta σ H fun xs H1 => xs.length ≤ sizeLine ∧ ∀ p o, TF o → H1 p = none → Q (.ref p) (upd H1 p (.frz o (.tup xs)))
theorem pe_tupF {x1 : Nat} (h : PA X es t) : PE X (.Tuple es x1 pos) (tTupF t) := by
  refine ⟨fun pins s σ H Q I hq => ?_⟩
  refine wpAny_Tuple_spliced (thn (h.run pos pins s σ H _ I hq) fun us s1 ⟨xs, H1, I1, r, z, q⟩ => ⟨by rw [← r.length]; exact z, ?_⟩)
  have hf : H1 s1.heap.objs.size = none := I1.hok.fresh (Nat.le_refl _)
  have hg := Heap.get?_push_size s1.heap (o := { cls := .type "tuple", data := .seq us.toArray }) rfl
  exact ⟨.ref s1.heap.objs.size, upd H1 s1.heap.objs.size (.frz { cls := .type "tuple", data := .seq us.toArray } (.tup xs)), I1.laid (t' := s1.toks) (fun b u e => Heap.get?_push_of_some _ e) (Nat.le_refl _) ⟨hg, z, us, r, ⟨_, hg, rfl, _, rfl⟩⟩, rfl, q _ _ ⟨rfl, rfl⟩ hf⟩
def rCatF (K : PySem.W.Frag) : R2 := fun x y H Q => ∃ a b xs ys, x = .ref a ∧ y = .ref b ∧ SqT K H a xs ∧ SqT K H b ys ∧ xs.length + ys.length ≤ sizeLine ∧
  (xs = [] → Q (.ref b) H) ∧ (xs ≠ [] → ys = [] → Q (.ref a) H) ∧ (xs ≠ [] → ys ≠ [] → ∀ p o, TF o → H p = none → Q (.ref p) (upd H p (.frz o (.tup (xs ++ ys)))))
theorem op_catF : OpR X (binaryOp .Add) (rCatF X.K) := by
  intro pins s σ H x y v u Q I rx ry h
  obtain ⟨a, b, xs, ys, rfl, rfl, ha, hb, hz, q0, q1, q2⟩ := h
  cases rx
  cases ry
  obtain ⟨its, r1, p1, _⟩ := I.tuple ha
  obtain ⟨its2, r2, p2, _⟩ := I.tuple hb
  by_cases hx : xs = []
  · subst hx
    cases r1
    exact cat_tup0 p1 p2 ⟨.ref b, H, I, rfl, q0 rfl⟩
  · refine HT.cat_tup p1 p2 (fun z => hx (r1.nil_iff.mp z)) (fun z => ⟨.ref a, H, I, rfl, q1 hx (r2.nil_iff.mp z)⟩) (fun z => ?_) (by rw [← r1.length, ← r2.length]; exact hz)
    have hg := Heap.get?_push_size s.heap (o := { cls := .type "tuple", data := .seq (its ++ its2).toArray }) rfl
    exact ⟨.ref s.heap.objs.size, _, I.laid (t' := s.toks) (o := .frz { cls := .type "tuple", data := .seq (its ++ its2).toArray } (.tup (xs ++ ys))) (fun b ob q => Heap.get?_push_of_some _ q) (Nat.le_refl _) ⟨hg, by rw [List.length_append]; exact hz, _, r1.append r2, IsTup.new _ _⟩, rfl, q2 hx (fun w => z (r2.nil_iff.mpr w)) _ _ ⟨rfl, rfl⟩ (I.hok.fresh (Nat.le_refl _))⟩
def rSlF (K : PySem.W.Frag) : V → Option Int → Option Int → Hp → VK → Prop := fun x lo hi H Q => ∃ a xs, x = .ref a ∧ SqT K H a xs ∧
  (HT.sIx xs.length 0 lo = 0 ∧ HT.sIx xs.length xs.length hi = xs.length → Q (.ref a) H) ∧ (¬ (HT.sIx xs.length 0 lo = 0 ∧ HT.sIx xs.length xs.length hi = xs.length) → ∀ p o, TF o → H p = none → Q (.ref p) (upd H p (.frz o (.tup (cutV xs lo hi)))))
theorem sl_tupF : SlR X (rSlF X.K) := by
  intro pins s σ H x v vl vu lo hi sl Q I rx hs pl pu h
  obtain ⟨a, xs, rfl, hx, q1, q2⟩ := h
  cases rx
  obtain ⟨its, r, ht, hz⟩ := I.tuple hx
  have hlen : its.toArray.size = xs.length := by rw [List.size_toArray]; exact r.length.symm
  refine ⟨"tuple", _, PyProof.Rows.slot_tuple_getitem.lookup, ht.typeIs, ?_⟩
  by_cases hw : HT.sIx xs.length 0 lo = 0 ∧ HT.sIx xs.length xs.length hi = xs.length
  · exact getItem_tuple_whole ht hs pl pu (by rw [hlen]; exact hw) ⟨.ref a, H, I, rfl, q1 hw⟩
  · refine HT.getItem_tuple_cut ht hs pl pu (by rw [hlen]; exact hw) ?_ (by rw [hlen]; exact hz)
    rw [hlen]
    exact ⟨.ref s.heap.objs.size, _, I.laid (t' := s.toks) (o := .frz _ (.tup (cutV xs lo hi))) (fun b ob q => Heap.get?_push_of_some _ q) (Nat.le_refl _) ⟨Heap.get?_push_size s.heap rfl, Nat.le_trans (cutV_length xs lo hi) hz, _, (r.drop (HT.sIx xs.length 0 lo)).take (HT.sIx xs.length xs.length hi - HT.sIx xs.length 0 lo), IsTup.new _ _⟩, rfl, q2 hw _ _ ⟨rfl, rfl⟩ (I.hok.fresh (Nat.le_refl _))⟩
theorem call_tupleF : CallR X (.type "tuple") (fun xs H Q => ∃ p ys, xs = [.ref p] ∧ ((SqL X.K H p ys ∧ ∀ l o, TF o → H l = none → Q (.ref l) (upd H l (.frz o (.tup ys)))) ∨ (SqT X.K H p ys ∧ Q (.ref p) H))) := by
  intro pins s σ H xs us Q I r h
  obtain ⟨p, ys, rfl, h⟩ := h
  obtain ⟨u, rfl, rx⟩ := vals1 r
  cases rx
  rcases h with ⟨hq, q⟩ | ⟨hq, q⟩
  · obtain ⟨its, r', pl, hz⟩ := I.list hq
    have hlen := r'.length
    refine call_tuple_list pl.isList (fun h' kp => ?_) (by simp only [List.size_toArray] <;> omega)
    have I1 : Inv X pins σ H { s with heap := h' } := I.kept (t' := s.toks) kp
    have hg := Heap.get?_push_size h' (o := { cls := .type "tuple", data := .seq its.toArray }) rfl
    exact ⟨.ref h'.objs.size, _, I1.laid (t' := s.toks) (o := .frz { cls := .type "tuple", data := .seq its.toArray } (.tup ys)) (fun b o e => Heap.get?_push_of_some _ e) (Nat.le_refl _) ⟨hg, hz, its, r', IsTup.new _ _⟩, rfl, q _ _ ⟨rfl, rfl⟩ (I1.hok.fresh (Nat.le_refl _))⟩
  · obtain ⟨its, r', pl, hz⟩ := I.tuple hq
    exact call_tuple_same pl ⟨.ref p, H, I, rfl, q⟩
end
end L2.Pv

set_option Elab.async false
set_option linter.all false
set_option maxRecDepth 100000
/-! Pv: a small language of values with a store of changing objects; what its functions mean, and that the model does so. -/
namespace L2.Pv
open PySem PySem.Spec PyProof.Rows L2

/-- what is known of the written part, and the world -/
structure Fg where
  K : PySem.W.Frag
  w : World
abbrev _root_.L2.Cx.F (X : Cx) : Fg := ⟨X.K, X.w⟩

/-! ### keys of dicts -/
mutual
def nkOf : PyData → Option NestedKey
  | .none => some .none
  | .bool b => some (.num (if b = true then 1 else 0))
  | .int i => some (.num i)
  | .str x => some (.text x)
  | .tuple ds => (nksOf ds).map .tup
  | .list _ => none
  | .dict _ => none
def nksOf : List PyData → Option (List NestedKey)
  | [] => some []
  | d :: ds => match nkOf d with
    | some k => (nksOf ds).map (k :: ·)
    | none => none
end
def isTupD : PyData → Bool
  | .tuple _ => true
  | _ => false
/-- may be a key: an int, a text, a tuple of such, None, bools (to depth 8) -/
def keyB : PyData → Bool
  | .int _ => true
  | .str _ => true
  | .tuple ds => match nkOf (.tuple ds) with
    | some k => decide (k.depth ≤ 8)
    | none => false
  | _ => false
/-- the same key -/
def keq (a b : PyData) : Bool := decide (nkOf a = nkOf b)
abbrev Kvs := List (PyData × PyData)
def dLook (kds : Kvs) (k : PyData) : Option PyData := (kds.find? fun p => keq p.1 k).map (·.2)
def dPut (kds : Kvs) (k v : PyData) : Kvs := if kds.any (fun p => keq p.1 k) then kds.map (fun p => if keq p.1 k then (p.1, v) else p) else kds ++ [(k, v)]
/-- the key is of the kind of those that are there -/
def kindB (kds : Kvs) (k : PyData) : Bool := keyB k && match kds with
  | [] => true
  | p :: _ => isTupD p.1 == isTupD k
/-- all keys are of one kind, no two are the same -/
structure KvsOk (kds : Kvs) : Prop where
  key : ∀ p ∈ kds, keyB p.1 = true
  kind : (∀ p ∈ kds, isTupD p.1 = true) ∨ ∀ p ∈ kds, isTupD p.1 = false
  nd : (kds.map fun p => nkOf p.1).Nodup
/-- a dict by its entries -/
def dO (a : Addr) (es : List DictEntry) (ep : Nat) : HO := .ext fun h => (a == sysModules) = false ∧ es.length ≤ sizeLine ∧ ∃ o, h.get? a = some o ∧ o.ExactDict ∧ o.data = .dict es.toArray ep

/-! ### values by what they show -/
/-- a tuple, a list that nobody changes: read, not among the addresses m -/
def TupAt (K : Fg) (H : Hp) (m : List Addr) (a : Addr) (xs : List V) : Prop :=
  (∃ o : Obj, TF o ∧ H a = some (.frz o (.tup xs)) ∧ a ∉ m) ∨ ∃ (o : Obj) (its : Array Value) (n : Nat), K.K.lookup a = some o ∧ o.cls = .type "tuple" ∧ o.dict = none ∧ o.data = .seq its n ∧ its.size ≤ sizeLine ∧ Vals xs its.toList
/-- a list that is tracked or locked -/
def LsAt (H : Hp) (m : List Addr) (a : Addr) (xs : List V) : Prop := H a = some (.lst xs) ∧ a ∉ m
def LstAt (K : Fg) (H : Hp) (m : List Addr) (a : Addr) (xs : List V) : Prop :=
  (Rd H a (.lst xs) ∧ a ∉ m) ∨ ∃ (o : Obj) (its : Array Value) (n : Nat), K.K.lookup a = some o ∧ o.cls = .type "list" ∧ o.dict = none ∧ o.data = .seq its n ∧ its.size ≤ sizeLine ∧ Vals xs its.toList
theorem TupAt.sq {K : Fg} {H : Hp} {m : List Addr} {a : Addr} {xs : List V} (h : TupAt K H m a xs) : SqT K.K H a xs := by
  rcases h with ⟨o, _, h, _⟩ | ⟨o, its, n, h1, h2, _, h3⟩
  · exact .inl (.inr ⟨o, h⟩)
  · exact .inr ⟨o, its, n, h1, h2, h3⟩
theorem LsAt.at {K : Fg} {H : Hp} {m : List Addr} {a : Addr} {xs : List V} (h : LsAt H m a xs) : LstAt K H m a xs := .inl ⟨.inl h.1, h.2⟩
theorem LsAt.sq {K : PySem.W.Frag} {H : Hp} {m : List Addr} {a : Addr} {xs : List V} (h : LsAt H m a xs) : SqL K H a xs := .inl (.inl h.1)
theorem LstAt.sq {K : Fg} {H : Hp} {m : List Addr} {a : Addr} {xs : List V} (h : LstAt K H m a xs) : SqL K.K H a xs := by
  rcases h with ⟨h, _⟩ | h
  · exact .inl h
  · exact .inr h

mutual
inductive Rp (K : Fg) (H : Hp) (m : List Addr) : V → PyData → Prop
  | non : Rp K H m .non .none
  | bl (b : Bool) : Rp K H m (.bl b) (.bool b)
  | int (i : Int) : Rp K H m (.int i) (.int i)
  | str (x : Str) (ok : PySem.PyData.strOk x = true) : Rp K H m (.str x) (.str x)
  | lst {a : Addr} {xs : List V} {ds : List PyData} : LsAt H m a xs → RpL K H m xs ds → Rp K H m (.ref a) (.list ds)
  | tup {a : Addr} {xs : List V} {ds : List PyData} : TupAt K H m a xs → RpL K H m xs ds → Rp K H m (.ref a) (.tuple ds)
  | dct {a : Addr} {es : List DictEntry} {ep : Nat} {kds : List (PyData × PyData)} : H a = some (dO a es ep) → a ∉ m → KvsOk kds → RpD K H m es kds → Rp K H m (.ref a) (.dict kds)
inductive RpL (K : Fg) (H : Hp) (m : List Addr) : List V → List PyData → Prop
  | nil : RpL K H m [] []
  | cons {v : V} {vs : List V} {d : PyData} {ds : List PyData} : Rp K H m v d → RpL K H m vs ds → RpL K H m (v :: vs) (d :: ds)
inductive RpD (K : Fg) (H : Hp) (m : List Addr) : List DictEntry → List (PyData × PyData) → Prop
  | nil : RpD K H m [] []
  | cons {e : DictEntry} {es : List DictEntry} {kd vd : PyData} {kds : List (PyData × PyData)} {k : NestedKey} {x v : V} : nkOf kd = some k → e.hash = k.hash K.w → RelV x e.key → Rp K H m x kd → RelV v e.val → Rp K H m v vd → RpD K H m es kds → RpD K H m (e :: es) ((kd, vd) :: kds)
end

section
variable {K : Fg} {H H' : Hp} {m m' : List Addr}
mutual
theorem Rp.dp : ∀ (d : PyData) (v : V), d.plain = true → Rp K H m v d → Dp K.K H v d
  | .none, _, _, h => by cases h; exact .non
  | .bool b, _, _, h => by cases h; exact .bl b
  | .int i, _, _, h => by cases h; exact .int i
  | .str x, _, _, h => by
    cases h with
    | str _ ok => exact .str x
  | .list ds, _, p, h => by
    cases h with
    | lst a b => exact .lst a.sq (RpL.dp ds _ (by simpa [PyData.plain] using p) b)
  | .tuple ds, _, p, h => by
    cases h with
    | tup a b => exact .tup a.sq (RpL.dp ds _ (by simpa [PyData.plain] using p) b)
  | .dict _, _, p, h => nomatch p
theorem RpL.dp : ∀ (ds : List PyData) (vs : List V), PyData.plainAll ds = true → RpL K H m vs ds → DpAll K.K H vs ds
  | [], _, _, h => by cases h; exact .nil
  | d :: ds, _, p, h => by
    have p' : d.plain = true ∧ PyData.plainAll ds = true := by simpa [PyData.plainAll] using p
    cases h with
    | cons a b => exact .cons (Rp.dp d _ p'.1 a) (RpL.dp ds _ p'.2 b)
end
/-- what is needed to carry a showing over -/
structure Cov (m : List Addr) (H : Hp) (m' : List Addr) (H' : Hp) : Prop where
  keep : ∀ a o, H a = some o → a ∉ m → H' a = some o
  out : ∀ a o, H a = some o → a ∉ m → a ∉ m'
theorem TupAt.cov (c : Cov m H m' H') {a : Addr} {xs : List V} (h : TupAt K H m a xs) : TupAt K H' m' a xs := by
  rcases h with ⟨o, t, h, n⟩ | h
  · exact .inl ⟨o, t, c.keep _ _ h n, c.out _ _ h n⟩
  · exact .inr h
theorem LsAt.cov (c : Cov m H m' H') {a : Addr} {xs : List V} (h : LsAt H m a xs) : LsAt H' m' a xs := by
  obtain ⟨h, n⟩ := h
  exact ⟨c.keep _ _ h n, c.out _ _ h n⟩
theorem LstAt.cov (c : Cov m H m' H') {a : Addr} {xs : List V} (h : LstAt K H m a xs) : LstAt K H' m' a xs := by
  rcases h with ⟨h | ⟨o, h⟩, n⟩ | h
  · exact .inl ⟨.inl (c.keep _ _ h n), c.out _ _ h n⟩
  · exact .inl ⟨.inr ⟨o, c.keep _ _ h n⟩, c.out _ _ h n⟩
  · exact .inr h
mutual
theorem Rp.cov (c : Cov m H m' H') : ∀ (d : PyData) (v : V), Rp K H m v d → Rp K H' m' v d
  | .none, _, h => by cases h; exact .non
  | .bool b, _, h => by cases h; exact .bl b
  | .int i, _, h => by cases h; exact .int i
  | .str x, _, h => by
    cases h with
    | str _ ok => exact .str x ok
  | .list ds, _, h => by
    cases h with
    | lst a b => exact .lst (a.cov c) (RpL.cov c ds _ b)
  | .tuple ds, _, h => by
    cases h with
    | tup a b => exact .tup (a.cov c) (RpL.cov c ds _ b)
  | .dict kds, _, h => by
    cases h with
    | dct e n o b => exact .dct (c.keep _ _ e n) (c.out _ _ e n) o (RpD.cov c kds _ b)
theorem RpL.cov (c : Cov m H m' H') : ∀ (ds : List PyData) (vs : List V), RpL K H m vs ds → RpL K H' m' vs ds
  | [], _, h => by cases h; exact .nil
  | d :: ds, _, h => by
    cases h with
    | cons a b => exact .cons (Rp.cov c d _ a) (RpL.cov c ds _ b)
theorem RpD.cov (c : Cov m H m' H') : ∀ (kds : List (PyData × PyData)) (es : List DictEntry), RpD K H m es kds → RpD K H' m' es kds
  | [], _, h => by cases h; exact .nil
  | (kd, vd) :: kds, _, h => by
    cases h with
    | cons a b p q r s t => exact .cons a b p (Rp.cov c kd _ q) r (Rp.cov c vd _ s) (RpD.cov c kds _ t)
end
theorem Cov.refl : Cov m H m H := ⟨fun _ _ h _ => h, fun _ _ _ n => n⟩
theorem Cov.less (s : ∀ a ∈ m', a ∈ m) : Cov m H m' H := ⟨fun _ _ h _ => h, fun a _ _ n z => n (s a z)⟩
/-- from the empty heap: what stands in the written part -/
def HN : Hp := fun _ => none
theorem Cov.base : Cov m HN m' H' := ⟨fun _ _ h _ => absurd h (fun z => by cases z), fun _ _ h _ => absurd h (fun z => by cases z)⟩
mutual
theorem Rp.lay : ∀ (d : PyData) (v : V), d.plain = true → Rp K H m v d → d.canLay0 = true
  | .none, _, _, h => rfl
  | .bool b, _, _, h => rfl
  | .int i, _, _, h => rfl
  | .str x, _, _, h => by
    cases h with
    | str _ ok => exact ok
  | .list ds, _, p, h => by
    cases h with
    | lst a b => exact RpL.lay ds _ (by simpa [PyData.plain] using p) b
  | .tuple ds, _, p, h => by
    cases h with
    | tup a b => exact RpL.lay ds _ (by simpa [PyData.plain] using p) b
  | .dict _, _, p, h => nomatch p
theorem RpL.lay : ∀ (ds : List PyData) (vs : List V), PyData.plainAll ds = true → RpL K H m vs ds → PyData.canLayAll0 ds = true
  | [], _, _, h => rfl
  | d :: ds, _, p, h => by
    have p' : d.plain = true ∧ PyData.plainAll ds = true := by simpa [PyData.plainAll] using p
    cases h with
    | cons a b => show (d.canLay0 && PyData.canLayAll0 ds) = true; rw [Rp.lay d _ p'.1 a, RpL.lay ds _ p'.2 b]; rfl
end
theorem RpL.length : ∀ {ds : List PyData} {vs : List V}, RpL K H m vs ds → vs.length = ds.length
  | [], _, h => by cases h; rfl
  | d :: ds, _, h => by
    cases h with
    | cons a b => show _ + 1 = _ + 1; rw [RpL.length b]
theorem RpL.get : ∀ {ds : List PyData} {vs : List V} {i : Nat} {d : PyData}, RpL K H m vs ds → ds[i]? = some d → ∃ v, vs[i]? = some v ∧ Rp K H m v d
  | [], _, _, _, _, e => by simp at e
  | d :: ds, _, 0, _, h, e => by
    cases h with
    | cons a b =>
      simp at e
      subst e
      exact ⟨_, rfl, a⟩
  | d :: ds, _, i + 1, _, h, e => by
    cases h with
    | cons a b =>
      obtain ⟨v, h1, h2⟩ := RpL.get (i := i) b (by simpa using e)
      exact ⟨v, by simpa using h1, h2⟩
theorem RpL.getV : ∀ {ds : List PyData} {vs : List V} {i : Nat} {v : V}, RpL K H m vs ds → vs[i]? = some v → ∃ d, ds[i]? = some d ∧ Rp K H m v d := fun {ds vs i v} h e => by
  have hl := h.length
  have hi : i < vs.length := (List.getElem?_eq_some_iff.mp e).1
  obtain ⟨v', h1, h2⟩ := h.get (d := ds[i]) (List.getElem?_eq_getElem (by omega))
  rw [e] at h1
  cases h1
  exact ⟨_, List.getElem?_eq_getElem (by omega), h2⟩
theorem RpL.append : ∀ {ds es : List PyData} {vs ws : List V}, RpL K H m vs ds → RpL K H m ws es → RpL K H m (vs ++ ws) (ds ++ es)
  | [], _, _, _, h, q => by cases h; exact q
  | d :: ds, _, _, _, h, q => by
    cases h with
    | cons a b => exact .cons a (RpL.append b q)
theorem RpL.snoc {ds : List PyData} {d : PyData} {vs : List V} {v : V} (h : RpL K H m vs ds) (q : Rp K H m v d) : RpL K H m (vs ++ [v]) (ds ++ [d]) := h.append (.cons q .nil)
theorem RpL.take : ∀ (n : Nat) {ds : List PyData} {vs : List V}, RpL K H m vs ds → RpL K H m (vs.take n) (ds.take n)
  | 0, _, _, _ => .nil
  | n + 1, [], _, h => by cases h; exact .nil
  | n + 1, d :: ds, _, h => by
    cases h with
    | cons a b => exact .cons a (RpL.take n b)
theorem RpL.drop : ∀ (n : Nat) {ds : List PyData} {vs : List V}, RpL K H m vs ds → RpL K H m (vs.drop n) (ds.drop n)
  | 0, _, _, h => h
  | n + 1, [], _, h => by cases h; exact .nil
  | n + 1, d :: ds, _, h => by
    cases h with
    | cons a b => exact RpL.drop n b
theorem RpL.set : ∀ (i : Nat) {ds : List PyData} {vs : List V} {d : PyData} {v : V}, RpL K H m vs ds → Rp K H m v d → RpL K H m (vs.set i v) (ds.set i d)
  | _, [], _, _, _, h, _ => by cases h; exact .nil
  | 0, d :: ds, _, _, _, h, q => by
    cases h with
    | cons a b => exact .cons q b
  | i + 1, d :: ds, _, _, _, h, q => by
    cases h with
    | cons a b => exact .cons a (RpL.set i b q)
theorem RpL.map {α : Type} {f : α → V} {g : α → PyData} (h : ∀ a, Rp K H m (f a) (g a)) : ∀ l : List α, RpL K H m (l.map f) (l.map g)
  | [] => .nil
  | a :: l => .cons (h a) (RpL.map h l)
theorem RpL.reverse : ∀ {ds : List PyData} {vs : List V}, RpL K H m vs ds → RpL K H m vs.reverse ds.reverse
  | [], _, h => by cases h; exact .nil
  | d :: ds, _, h => by
    cases h with
    | cons a b =>
      rw [List.reverse_cons, List.reverse_cons]
      exact (RpL.reverse b).snoc a
end

/-! ### the store of what changes -/
inductive Ob where
  | lst (ds : List PyData)
  | dct (kds : Kvs)
  | dead
abbrev Sto := List Ob
/-- a value at hand: data, or an object of the store by its place -/
inductive Vl where
  | d (x : PyData)
  | o (n : Nat)
  | k (ds : List PyData)
abbrev Env := List (Option Vl)
/-- the addresses of the store's objects; what may change -/
structure Pl where
  ad : List Addr
  m : List Addr
def ObR (K : Fg) (H : Hp) (m : List Addr) (a : Addr) : Ob → Prop
  | .lst ds => a ∈ m ∧ ∃ xs, H a = some (.lst xs) ∧ RpL K H m xs ds
  | .dct kds => a ∈ m ∧ ∃ es ep, H a = some (dO a es ep) ∧ KvsOk kds ∧ RpD K H m es kds
  | .dead => True
section
variable {K : Fg} {H H' : Hp} {m m' : List Addr}
theorem ObR.cov (c : Cov m H m' H') {a : Addr} {o : Ob} (e : H' a = H a) (l : a ∈ m → a ∈ m') (h : ObR K H m a o) : ObR K H' m' a o := by
  cases o with
  | lst ds =>
    obtain ⟨h0, xs, h1, h2⟩ := h
    exact ⟨l h0, xs, e.trans h1, RpL.cov c _ _ h2⟩
  | dct kds =>
    obtain ⟨h0, es, ep, h1, h2, h3⟩ := h
    exact ⟨l h0, es, ep, e.trans h1, h2, RpD.cov c _ _ h3⟩
  | dead => trivial
end
/-- the store S at the addresses ρ -/
structure StR (K : Fg) (ρ : Pl) (S : Sto) (H : Hp) : Prop where
  nd : ρ.ad.Nodup
  tk : ∀ a ∈ ρ.m, H a ≠ none
  tka : ∀ a ∈ ρ.ad, H a ≠ none
  all : Paired (fun a o => ObR K H ρ.m a o) ρ.ad S
/-- a later state: the store may have grown at the end -/
structure Ext (ρ : Pl) (H : Hp) (ρ' : Pl) (H' : Hp) : Prop where
  pre : ∃ new, ρ'.ad = ρ.ad ++ new ∧ ∀ a ∈ new, H a = none
  keep : ∀ a o, H a = some o → a ∉ ρ.ad ∨ a ∉ ρ.m → H' a = some o
  out : ∀ a o, H a = some o → a ∉ ρ.m → a ∉ ρ'.m
  stay : ∀ a ∈ ρ.m, a ∉ ρ.ad → a ∈ ρ'.m ∧ a ∉ ρ'.ad
  trk : ∀ a, H a ≠ none → H' a ≠ none
section
variable {K : Fg} {H H' H1 H2 : Hp} {ρ ρ' ρ1 ρ2 : Pl} {S S' : Sto}
theorem pairedGet {α β : Type} {F : α → β → Prop} : ∀ {l : List α} {r : List β} {i : Nat} {a : α}, Paired F l r → l[i]? = some a → ∃ b, r[i]? = some b ∧ F a b
  | _, _, _, _, .nil, e => by simp at e
  | _, _, 0, _, .cons h t, e => by
    simp at e
    subst e
    exact ⟨_, rfl, h⟩
  | _, _, i + 1, _, .cons h t, e => by
    obtain ⟨b, h1, h2⟩ := pairedGet (i := i) t (by simpa using e)
    exact ⟨b, by simpa using h1, h2⟩
theorem pairedGetR {α β : Type} {F : α → β → Prop} : ∀ {l : List α} {r : List β} {i : Nat} {b : β}, Paired F l r → r[i]? = some b → ∃ a, l[i]? = some a ∧ F a b
  | _, _, _, _, .nil, e => by simp at e
  | _, _, 0, _, .cons h t, e => by
    simp at e
    subst e
    exact ⟨_, rfl, h⟩
  | _, _, i + 1, _, .cons h t, e => by
    obtain ⟨b, h1, h2⟩ := pairedGetR (i := i) t (by simpa using e)
    exact ⟨b, by simpa using h1, h2⟩
theorem pairedMem {α β : Type} {F : α → β → Prop} : ∀ {l : List α} {r : List β} {a : α}, Paired F l r → a ∈ l → ∃ b, b ∈ r ∧ F a b
  | _, _, _, .cons h t, hm => by
    rcases List.mem_cons.mp hm with rfl | hm
    · exact ⟨_, List.mem_cons_self, h⟩
    · obtain ⟨b, h1, h2⟩ := pairedMem t hm
      exact ⟨b, List.mem_cons_of_mem _ h1, h2⟩
theorem pairedMono {α β : Type} {F G : α → β → Prop} : ∀ {l : List α} {r : List β}, Paired F l r → (∀ a b, a ∈ l → F a b → G a b) → Paired G l r
  | _, _, .nil, _ => .nil
  | _, _, .cons h t, f => .cons (f _ _ List.mem_cons_self h) (pairedMono t fun a b hm => f a b (List.mem_cons_of_mem _ hm))
theorem pairedAppend {α β : Type} {F : α → β → Prop} : ∀ {l l' : List α} {r r' : List β}, Paired F l r → Paired F l' r' → Paired F (l ++ l') (r ++ r')
  | _, _, _, _, .nil, h => h
  | _, _, _, _, .cons a b, h => .cons a (pairedAppend b h)
theorem pairedTake {α β : Type} {F : α → β → Prop} : ∀ (n : Nat) {l : List α} {r : List β}, Paired F l r → Paired F (l.take n) (r.take n)
  | 0, _, _, _ => .nil
  | n + 1, _, _, .nil => .nil
  | n + 1, _, _, .cons a b => .cons a (pairedTake n b)
theorem pairedSet {α β : Type} {F : α → β → Prop} : ∀ {l : List α} {r : List β} (i : Nat) {b : β}, Paired F l r → (∀ a, l[i]? = some a → F a b) → Paired F l (r.set i b)
  | _, _, _, _, .nil, _ => .nil
  | _, _, 0, _, .cons h t, f => .cons (f _ rfl) t
  | _, _, i + 1, _, .cons h t, f => .cons h (pairedSet i t fun a e => f a (by simpa using e))
theorem StR.len (h : StR K ρ S H) : ρ.ad.length = S.length := Paired.length h.all
theorem Ext.refl (_ : StR K ρ S H) : Ext ρ H ρ H := ⟨⟨[], by simp, by simp⟩, fun _ _ h _ => h, fun _ _ _ h => h, fun _ h n => ⟨h, n⟩, fun _ h => h⟩
theorem Ext.trans (x : Ext ρ H ρ1 H1) (y : Ext ρ1 H1 ρ2 H2) : Ext ρ H ρ2 H2 := by
  obtain ⟨⟨n1, p1, f1⟩, k1, o1, s1, t1⟩ := x
  obtain ⟨⟨n2, p2, f2⟩, k2, o2, s2, t2⟩ := y
  refine ⟨⟨n1 ++ n2, by rw [p2, p1, List.append_assoc], fun a ha => ?_⟩, fun a o e hn => ?_, fun a o e hn => ?_, fun a ha hn => s2 a (s1 a ha hn).1 (s1 a ha hn).2, fun a e => t2 a (t1 a e)⟩
  · rcases List.mem_append.mp ha with ha | ha
    · exact f1 a ha
    · cases e : H a with
      | none => rfl
      | some o => exact absurd (f2 a ha) (t1 a (by rw [e]; exact fun z => nomatch z))
  · refine k2 a o (k1 a o e hn) ?_
    rcases hn with hn | hn
    · left
      rw [p1]
      intro hm
      rcases List.mem_append.mp hm with hm | hm
      · exact hn hm
      · rw [f1 a hm] at e
        cases e
    · exact .inr (o1 a o e hn)
  · cases e1 : H1 a with
    | none => exact absurd e1 (t1 a (by rw [e]; exact fun z => nomatch z))
    | some o' => exact o2 a o' e1 (o1 a o e hn)
theorem Ext.cov (x : Ext ρ H ρ' H') : Cov ρ.m H ρ'.m H' := ⟨fun a o e hn => x.keep a o e (.inr hn), x.out⟩
theorem Ext.ad (x : Ext ρ H ρ' H') {n : Nat} {a : Addr} (h : ρ.ad[n]? = some a) : ρ'.ad[n]? = some a := by
  obtain ⟨new, e, _⟩ := x.pre
  rw [e, List.getElem?_append_left (List.getElem?_eq_some_iff.mp h).1]
  exact h
end

def Vr (K : Fg) (H : Hp) (ρ : Pl) (x : V) : Vl → Prop
  | .d d => Rp K H ρ.m x d
  | .o n => ∃ a, ρ.ad[n]? = some a ∧ x = .ref a
  | .k ds => ∃ a xs, x = .ref a ∧ LstAt K H ρ.m a xs ∧ RpL K H ρ.m xs ds
abbrev VrL (K : Fg) (H : Hp) (ρ : Pl) : List V → List Vl → Prop := Paired (Vr K H ρ)
def EnR (K : Fg) (H : Hp) (ρ : Pl) (σ : St) (Γ : Env) : Prop := Paired (fun (o : Option V) (g : Option Vl) => ∀ v, g = some v → ∃ x, o = some x ∧ Vr K H ρ x v) σ Γ
section
variable {K : Fg} {H H' H1 H2 : Hp} {ρ ρ' ρ1 ρ2 : Pl} {S S' : Sto}
theorem Vr.ext (x : Ext ρ H ρ' H') {v : Vl} {z : V} (h : Vr K H ρ z v) : Vr K H' ρ' z v := by
  cases v with
  | d d => exact Rp.cov x.cov _ _ h
  | o n =>
    obtain ⟨a, h1, h2⟩ := h
    exact ⟨a, x.ad h1, h2⟩
  | k ds =>
    obtain ⟨a, xs, e, h1, h2⟩ := h
    exact ⟨a, xs, e, h1.cov x.cov, RpL.cov x.cov _ _ h2⟩
theorem VrL.ext (x : Ext ρ H ρ' H') {vs : List Vl} {zs : List V} (h : VrL K H ρ zs vs) : VrL K H' ρ' zs vs := pairedMono h fun _ _ _ q => q.ext x
theorem EnR.ext (x : Ext ρ H ρ' H') {Γ : Env} {σ : St} (h : EnR K H ρ σ Γ) : EnR K H' ρ' σ Γ := pairedMono h fun _ _ _ q v e => let ⟨z, h1, h2⟩ := q v e; ⟨z, h1, h2.ext x⟩
theorem EnR.get {Γ : Env} {σ : St} {i : Nat} {v : Vl} (h : EnR K H ρ σ Γ) (e : Γ[i]? = some (some v)) : ∃ x, σ[i]? = some (some x) ∧ Vr K H ρ x v := by
  obtain ⟨o, h1, h2⟩ := pairedGetR h e
  obtain ⟨x, rfl, h3⟩ := h2 v rfl
  exact ⟨x, h1, h3⟩
theorem EnR.set {Γ : Env} {σ : St} {i : Nat} {v : Vl} {x : V} (h : EnR K H ρ σ Γ) (q : Vr K H ρ x v) : EnR K H ρ (σ.set i (some x)) (Γ.set i (some v)) := by
  induction h generalizing i with
  | nil => exact .nil
  | cons a b ih =>
    cases i with
    | zero => exact .cons (fun v' e => by cases e; exact ⟨x, rfl, q⟩) b
    | succ i => exact .cons a ih
theorem EnR.setNone {Γ : Env} {σ : St} {i : Nat} (h : EnR K H ρ σ Γ) : EnR K H ρ (σ.set i none) (Γ.set i none) := by
  induction h generalizing i with
  | nil => exact .nil
  | cons a b ih =>
    cases i with
    | zero => exact .cons (fun v' e => by cases e) b
    | succ i => exact .cons a ih
/-- an address of the store is written anew -/
theorem StR.put (h : StR K ρ S H) {n : Nat} {a : Addr} {o : HO} {p : Ob} (e : ρ.ad[n]? = some a) (ha : a ∈ ρ.m) (q : ObR K (upd H a o) ρ.m a p) :
    StR K ρ (S.set n p) (upd H a o) ∧ Ext ρ H ρ (upd H a o) := by
  have hc : Cov ρ.m H ρ.m (upd H a o) := ⟨fun b u hb hn => by rw [upd_ne (fun z => hn (by rw [z]; exact ha))]; exact hb, fun _ _ _ n => n⟩
  have htr : ∀ b, H b ≠ none → upd H a o b ≠ none := fun b hb => by
    by_cases z : b = a
    · subst z; rw [upd_same]; exact fun z => by cases z
    · rw [upd_ne z]; exact hb
  refine ⟨⟨h.nd, fun b hb => htr b (h.tk b hb), fun b hb => htr b (h.tka b hb), ?_⟩, ⟨⟨[], by simp, by simp⟩, fun b u hb hn => ?_, fun _ _ _ h => h, fun _ h n => ⟨h, n⟩, htr⟩⟩
  · have h1 : Paired (fun b p' => (b ≠ a → ObR K (upd H a o) ρ.m b p')) ρ.ad S := pairedMono h.all fun b p' _ q' z => q'.cov hc (by rw [upd_ne z]) id
    have nd := h.nd
    have key : ∀ (l : List Addr) (r : Sto) (n : Nat), l.Nodup → Paired (fun b p' => (b ≠ a → ObR K (upd H a o) ρ.m b p')) l r → l[n]? = some a → Paired (fun b p' => ObR K (upd H a o) ρ.m b p') l (r.set n p) := by
      intro l r
      induction l generalizing r with
      | nil => intro n _ _ e; simp at e
      | cons b l ih =>
        intro n nd hp e
        cases hp with
        | cons hb ht =>
          cases n with
          | zero =>
            simp at e
            subst e
            refine .cons q (pairedMono ht fun c p' hcl q' => q' fun z => ?_)
            subst z
            exact (List.nodup_cons.mp nd).1 hcl
          | succ n =>
            have e' : l[n]? = some a := by simpa using e
            refine .cons (hb fun z => ?_) (ih _ n (List.nodup_cons.mp nd).2 ht e')
            subst z
            exact (List.nodup_cons.mp nd).1 (List.mem_of_getElem? e')
    exact key ρ.ad S n nd h1 e
  · rw [upd_ne fun z => ?_]
    · exact hb
    · subst z
      rcases hn with hn | hn
      · exact hn (List.mem_of_getElem? e)
      · exact hn ha
/-- a new object that is not of the store -/
theorem StR.fresh (h : StR K ρ S H) {p : Addr} {o : HO} (hp : H p = none) : StR K ρ S (upd H p o) ∧ Ext ρ H ρ (upd H p o) := by
  have hc : Cov ρ.m H ρ.m (upd H p o) := ⟨fun b u hb _ => by rw [upd_ne (ne_of_none hb hp)]; exact hb, fun _ _ _ n => n⟩
  have htr : ∀ b, H b ≠ none → upd H p o b ≠ none := fun b hb => by
    by_cases z : b = p
    · subst z; exact absurd hp hb
    · rw [upd_ne z]; exact hb
  refine ⟨⟨h.nd, fun b hb => htr b (h.tk b hb), fun b hb => htr b (h.tka b hb), pairedMono h.all fun b u hb q => q.cov hc ?_ id⟩, ⟨⟨[], by simp, by simp⟩, fun b u hb _ => by rw [upd_ne (ne_of_none hb hp)]; exact hb, fun _ _ _ h => h, fun _ h n => ⟨h, n⟩, htr⟩⟩
  by_cases z : b = p
  · subst z; exact absurd hp (h.tka b hb)
  · rw [upd_ne z]
theorem StR.notin (h : StR K ρ S H) {p : Addr} (hp : H p = none) : p ∉ ρ.m := fun z => h.tk p z hp
theorem StR.notad (h : StR K ρ S H) {p : Addr} (hp : H p = none) : p ∉ ρ.ad := fun z => h.tka p z hp
/-- one more object of the store -/
def Pl.more (ρ : Pl) (p : Addr) : Pl := ⟨ρ.ad ++ [p], ρ.m ++ [p]⟩
theorem Pl.more_at {ρ : Pl} {p : Addr} : (ρ.more p).ad[ρ.ad.length]? = some p := by
  show (ρ.ad ++ [p])[ρ.ad.length]? = some p
  rw [List.getElem?_append_right (Nat.le_refl _), Nat.sub_self]
  rfl
theorem more_cov {p : Addr} {o : HO} (hp : H p = none) : Cov ρ.m H (ρ.more p).m (upd H p o) := ⟨fun b u hb _ => by rw [upd_ne (ne_of_none hb hp)]; exact hb, fun b u hb hn hm => by
  rcases List.mem_append.mp hm with hm | hm
  · exact hn hm
  · rw [List.mem_singleton.mp hm, hp] at hb
    cases hb⟩
/-- a new object of the store -/
theorem StR.alloc (h : StR K ρ S H) {p : Addr} {o : HO} {u : Ob} (hp : H p = none) (q : ObR K (upd H p o) (ρ.more p).m p u) : StR K (ρ.more p) (S ++ [u]) (upd H p o) ∧ Ext ρ H (ρ.more p) (upd H p o) := by
  have hn := h.notin hp
  have hna := h.notad hp
  have htr : ∀ b, H b ≠ none → upd H p o b ≠ none := fun b hb => by
    by_cases z : b = p
    · subst z; exact absurd hp hb
    · rw [upd_ne z]; exact hb
  have htr2 : ∀ l : List Addr, (∀ b ∈ l, H b ≠ none) → ∀ b ∈ l ++ [p], upd H p o b ≠ none := fun l hl b hb => by
    rcases List.mem_append.mp hb with hb | hb
    · exact htr b (hl b hb)
    · rw [List.mem_singleton.mp hb, upd_same]
      exact fun z => nomatch z
  have x : Ext ρ H (ρ.more p) (upd H p o) := by
    refine ⟨⟨[p], rfl, by simpa using hp⟩, fun b u hb _ => by rw [upd_ne (ne_of_none hb hp)]; exact hb, (more_cov (o := o) hp).out, fun b hb hbn => ⟨List.mem_append_left _ hb, fun hm => ?_⟩, htr⟩
    rcases List.mem_append.mp hm with hm | hm
    · exact hbn hm
    · rw [List.mem_singleton.mp hm] at hb
      exact hn hb
  refine ⟨⟨?_, htr2 _ h.tk, htr2 _ h.tka, pairedAppend (pairedMono h.all fun b u hb q => q.cov (more_cov hp) ?_ fun z => List.mem_append_left _ z) (.cons q .nil)⟩, x⟩
  · show (ρ.ad ++ [p]).Nodup
    rw [List.nodup_append]
    refine ⟨h.nd, by simp, fun a ha b hb z => ?_⟩
    rw [List.mem_singleton.mp hb] at z
    rw [z] at ha
    exact hna ha
  · by_cases z : b = p
    · subst z; exact absurd hp (h.tka b hb)
    · rw [upd_ne z]
theorem StR.get (h : StR K ρ S H) {n : Nat} {a : Addr} {o : Ob} (ha : ρ.ad[n]? = some a) (ho : S[n]? = some o) : ObR K H ρ.m a o := by
  obtain ⟨b, h1, h2⟩ := pairedGet h.all ha
  rw [ho] at h1
  cases h1
  exact h2
def Pl.less (ρ : Pl) (a : Addr) : Pl := ⟨ρ.ad, ρ.m.filter fun b => decide (b ≠ a)⟩
theorem less_mem {a b : Addr} : b ∈ (ρ.less a).m ↔ b ∈ ρ.m ∧ b ≠ a := by
  show b ∈ ρ.m.filter _ ↔ _
  rw [List.mem_filter]
  simp
theorem less_cov {a : Addr} : Cov ρ.m H (ρ.less a).m H := Cov.less fun b hb => (less_mem.mp hb).1
/-- an object of the store is data from now on -/
theorem StR.freeze (h : StR K ρ S H) {n : Nat} {a : Addr} (ha : ρ.ad[n]? = some a) : StR K (ρ.less a) (S.set n .dead) H ∧ Ext ρ H (ρ.less a) H := by
  refine ⟨⟨h.nd, fun b hb => h.tk b (less_mem.mp hb).1, h.tka, ?_⟩, ⟨⟨[], by simp [Pl.less], by simp⟩, fun _ _ h _ => h, less_cov.out, fun b hb hn => ⟨less_mem.mpr ⟨hb, fun z => hn (by rw [z]; exact List.mem_of_getElem? ha)⟩, hn⟩, fun _ h => h⟩⟩
  have nd := h.nd
  have key : ∀ (l : List Addr) (r : Sto) (n : Nat), l.Nodup → Paired (fun b p => ObR K H ρ.m b p) l r → l[n]? = some a → Paired (fun b p => ObR K H (ρ.less a).m b p) l (r.set n .dead) := by
    intro l r
    induction l generalizing r with
    | nil => intro n _ _ e; simp at e
    | cons b l ih =>
      intro n nd hp e
      cases hp with
      | cons hb ht =>
        cases n with
        | zero =>
          simp at e
          subst e
          refine .cons trivial (pairedMono ht fun c p' hcl q' => q'.cov less_cov rfl fun z => less_mem.mpr ⟨z, fun y => ?_⟩)
          subst y
          exact (List.nodup_cons.mp nd).1 hcl
        | succ n =>
          have e' : l[n]? = some a := by simpa using e
          refine .cons (hb.cov less_cov rfl fun z => less_mem.mpr ⟨z, fun y => ?_⟩) (ih _ n (List.nodup_cons.mp nd).2 ht e')
          subst y
          exact (List.nodup_cons.mp nd).1 (List.mem_of_getElem? e')
  exact key ρ.ad S n nd h.all ha
theorem tupNew (h : StR K ρ S H) {p : Addr} {o : Obj} {xs : List V} {ds : List PyData} (t : TF o) (hp : H p = none) (q : RpL K H ρ.m xs ds) : Rp K (upd H p (.frz o (.tup xs))) ρ.m (.ref p) (.tuple ds) :=
  .tup (.inl ⟨o, t, upd_same, h.notin hp⟩) (RpL.cov (h.fresh hp).2.cov _ _ q)
theorem lstNew (h : StR K ρ S H) {p : Addr} {xs : List V} {ds : List PyData} (hp : H p = none) (q : RpL K H ρ.m xs ds) : Rp K (upd H p (.lst xs)) ρ.m (.ref p) (.list ds) :=
  .lst ⟨upd_same, h.notin hp⟩ (RpL.cov (h.fresh hp).2.cov _ _ q)
end
end L2.Pv

set_option Elab.async false
set_option linter.all false
set_option maxRecDepth 100000
namespace L2.Pv
open PySem PySem.Spec PyProof.Rows L2

/-! ### what an operation yields -/
inductive R (α : Type) where
  | ok (a : α) (S : Sto)
  | bad
def R.bind {α β : Type} (r : R α) (f : α → Sto → R β) : R β := match r with
  | .ok a S => f a S
  | .bad => .bad
theorem R.bind_ok {α β : Type} {r : R α} {f : α → Sto → R β} {b : β} {S : Sto} (h : r.bind f = .ok b S) : ∃ a S1, r = .ok a S1 ∧ f a S1 = .ok b S := by
  cases r with
  | ok a S1 => exact ⟨a, S1, rfl, h⟩
  | bad => cases h
def lft (S : Sto) : Option PyData → R Vl
  | some c => .ok (.d c) S
  | none => .bad
theorem lft_ok {S S' : Sto} {o : Option PyData} {r : Vl} (h : lft S o = .ok r S') : ∃ c, o = some c ∧ r = .d c ∧ S' = S := by
  cases o with
  | none => cases h
  | some c => cases h; exact ⟨c, rfl, rfl, rfl⟩
/-- what is wanted behind -/
def Cont (K : Fg) (ρ : Pl) (H : Hp) (S' : Sto) (v : Vl) (Q : VK) : Prop := ∀ ρ' H' x, Ext ρ H ρ' H' → StR K ρ' S' H' → Vr K H' ρ' x v → Q x H'
def ContB (K : Fg) (ρ : Pl) (H : Hp) (S' : Sto) (b : Bool) (Q : Bool → Hp → Prop) : Prop := ∀ ρ' H', Ext ρ H ρ' H' → StR K ρ' S' H' → Q b H'
def ContL (K : Fg) (ρ : Pl) (H : Hp) (S' : Sto) (vs : List Vl) (Q : List V → Hp → Prop) : Prop := ∀ ρ' H' xs, Ext ρ H ρ' H' → StR K ρ' S' H' → VrL K H' ρ' xs vs → Q xs H'
abbrev G2 := Vl → Vl → Sto → R Vl
abbrev G1 := Vl → Sto → R Vl
abbrev GL := List Vl → Sto → R Vl
def rD (K : Fg) (g : G2) : R2 := fun x y H Q => ∃ ρ S va vb r S', StR K ρ S H ∧ Vr K H ρ x va ∧ Vr K H ρ y vb ∧ g va vb S = .ok r S' ∧ Cont K ρ H S' r Q
def rD1 (K : Fg) (g : G1) : V → Hp → VK → Prop := fun x H Q => ∃ ρ S va r S', StR K ρ S H ∧ Vr K H ρ x va ∧ g va S = .ok r S' ∧ Cont K ρ H S' r Q
def rDL (K : Fg) (g : GL) : List V → Hp → VK → Prop := fun xs H Q => ∃ ρ S vs r S', StR K ρ S H ∧ VrL K H ρ xs vs ∧ g vs S = .ok r S' ∧ Cont K ρ H S' r Q
/-- a method: the receiver, the arguments -/
def rDM (K : Fg) (g : Vl → GL) : V → List V → Hp → VK → Prop := fun x xs H Q => ∃ ρ S va vs r S', StR K ρ S H ∧ Vr K H ρ x va ∧ VrL K H ρ xs vs ∧ g va vs S = .ok r S' ∧ Cont K ρ H S' r Q
def rDS (K : Fg) (g : Vl → Option Int → Option Int → Sto → R Vl) : V → Option Int → Option Int → Hp → VK → Prop := fun x lo hi H Q => ∃ ρ S va r S', StR K ρ S H ∧ Vr K H ρ x va ∧ g va lo hi S = .ok r S' ∧ Cont K ρ H S' r Q
def dat2 (h : PyData → PyData → Option PyData) : G2 := fun a b S => match a, b with
  | .d a, .d b => lft S (h a b)
  | _, _ => .bad
theorem dat2_ok {h : PyData → PyData → Option PyData} {va vb r : Vl} {S S' : Sto} (e : dat2 h va vb S = .ok r S') : ∃ a b c, va = .d a ∧ vb = .d b ∧ h a b = some c ∧ r = .d c ∧ S' = S := by
  unfold dat2 at e
  split at e
  · obtain ⟨c, h1, h2, h3⟩ := lft_ok e
    exact ⟨_, _, c, rfl, rfl, h1, h2, h3⟩
  · cases e
def dat1 (h : PyData → Option PyData) : G1 := fun a S => match a with
  | .d a => lft S (h a)
  | _ => .bad
theorem dat1_ok {h : PyData → Option PyData} {va r : Vl} {S S' : Sto} (e : dat1 h va S = .ok r S') : ∃ a c, va = .d a ∧ h a = some c ∧ r = .d c ∧ S' = S := by
  unfold dat1 at e
  split at e
  · obtain ⟨c, h1, h2, h3⟩ := lft_ok e
    exact ⟨_, c, rfl, h1, h2, h3⟩
  · cases e

section
variable {X : Cx} {pins : List (Addr × Obj)} {σ : L2.St} {H : Hp} {s : Shared} {ρ : Pl} {S : Sto} {Q : VK}
/-- nothing has changed -/
theorem Cont.here (h : StR X.F ρ S H) {v : Vl} (c : Cont X.F ρ H S v Q) {x : V} (q : Vr X.F H ρ x v) : Q x H := c ρ H x (Ext.refl h) h q
theorem fin_str (I : Inv X pins σ H s) (h : StR X.F ρ S H) {z : Str} (hz : PySem.PyData.strOk z = true) (c : Cont X.F ρ H S (.d (.str z)) Q) : Q (.str z) H := c.here h (show Rp _ _ _ _ _ from .str z hz)
theorem fin_tup (h : StR X.F ρ S H) {xs : List V} {ds : List PyData} (q : RpL X.F H ρ.m xs ds) (c : Cont X.F ρ H S (.d (.tuple ds)) Q) : ∀ p o, TF o → H p = none → Q (.ref p) (upd H p (.frz o (.tup xs))) := fun p o t hp =>
  c ρ _ _ (h.fresh hp).2 (h.fresh hp).1 (tupNew h t hp q)
theorem fin_lst (h : StR X.F ρ S H) {xs : List V} {ds : List PyData} (q : RpL X.F H ρ.m xs ds) (c : Cont X.F ρ H S (.d (.list ds)) Q) : ∀ p, H p = none → Q (.ref p) (upd H p (.lst xs)) := fun p hp =>
  c ρ _ _ (h.fresh hp).2 (h.fresh hp).1 (lstNew h hp q)
end

theorem StR.at {K : Fg} {ρ : Pl} {S : Sto} {H : Hp} (h : StR K ρ S H) {p : Addr} : (ρ.more p).ad[S.length]? = some p := by
  rw [← h.len]
  exact Pl.more_at
theorem Pl.more_mem {ρ : Pl} {p : Addr} : p ∈ (ρ.more p).m := List.mem_append_right _ List.mem_cons_self
/-- a list of the store is made -/
theorem fin_new {K : Fg} {ρ : Pl} {S : Sto} {H : Hp} {Q : VK} (hS : StR K ρ S H) {xs : List V} {ds : List PyData} (q : RpL K H ρ.m xs ds) (hc : Cont K ρ H (S ++ [.lst ds]) (.o S.length) Q) : ∀ p, H p = none → Q (.ref p) (upd H p (.lst xs)) := fun p hp => by
  obtain ⟨h1, h2⟩ := hS.alloc (u := .lst ds) hp ⟨Pl.more_mem, xs, upd_same, RpL.cov (more_cov hp) _ _ q⟩
  exact hc _ _ _ h2 h1 ⟨p, hS.at, rfl⟩
def SZ : Nat := 16777216
theorem SZ_eq : SZ = sizeLine := sizeLine_eq.symm

/-! ### texts stay texts -/
theorem strOk_append {a b : Str} (ha : PySem.PyData.strOk a = true) (hb : PySem.PyData.strOk b = true) : PySem.PyData.strOk (a ++ b) = true := by
  show (a.cps ++ b.cps).all _ = true
  rw [Array.all_append]
  exact Bool.and_eq_true_iff.mpr ⟨ha, hb⟩
theorem strOk_iff {a : Str} : PySem.PyData.strOk a = true ↔ ∀ c ∈ a.cps.toList, c < 0x110000 := by
  unfold PySem.PyData.strOk
  rw [← Array.all_toList, List.all_eq_true]
  exact ⟨fun h c hc => of_decide_eq_true (h c hc), fun h c hc => decide_eq_true (h c hc)⟩
theorem strOk_sub {a b : Str} (ha : PySem.PyData.strOk a = true) (h : ∀ c ∈ b.cps.toList, c ∈ a.cps.toList) : PySem.PyData.strOk b = true := strOk_iff.mpr fun c hc => strOk_iff.mp ha c (h c hc)

/-! ### + - * // % ** -/
def dAdd : PyData → PyData → Option PyData
  | .int i, .int j => some (.int (i + j))
  | .str a, .str b => if a.length + b.length ≤ SZ then some (.str (a ++ b)) else none
  | .tuple a, .tuple b => if a.length + b.length ≤ SZ then some (.tuple (a ++ b)) else none
  | .list a, .list b => if a.length + b.length ≤ SZ then some (.list (a ++ b)) else none
  | _, _ => none
def dSub : PyData → PyData → Option PyData
  | .int i, .int j => some (.int (i - j))
  | _, _ => none
def strRep (x : Str) (n : Int) : Str := ⟨(List.replicate n.toNat x.cps.toList).flatten.toArray⟩
def dMul : PyData → PyData → Option PyData
  | .int i, .int j => if (-(2 ^ 64) < i ∧ i < 2 ^ 64) ∨ (-(2 ^ 64) < j ∧ j < 2 ^ 64) then some (.int (i * j)) else none
  | .str x, .int n => if x.length * n.toNat ≤ SZ ∧ -(2 ^ 63) ≤ n ∧ n < 2 ^ 63 then some (.str (strRep x n)) else none
  | .list x, .int n => if x.length * n.toNat ≤ SZ ∧ -(2 ^ 63) ≤ n ∧ n < 2 ^ 63 then some (.list (List.replicate n.toNat x).flatten) else none
  | _, _ => none
def dFdiv : PyData → PyData → Option PyData
  | .int i, .int j => if 0 < j ∧ j < 18446744073709551616 then some (.int (i / j)) else none
  | _, _ => none
def dMod : PyData → PyData → Option PyData
  | .int i, .int j => if 0 < j then some (.int (i % j)) else none
  | _, _ => none
def dPow : PyData → PyData → Option PyData
  | .int i, .int j => if 0 ≤ j ∧ j ≤ 1000000 ∧ i.natAbs < 2 ^ 64 then some (.int (i ^ j.toNat)) else none
  | _, _ => none

theorem list_add_eq (x : List V) : True := trivial
theorem RpL.rep {K : Fg} {H : Hp} {m : List Addr} {ds : List PyData} {vs : List V} : ∀ n : Nat, RpL K H m vs ds → RpL K H m (List.replicate n vs).flatten (List.replicate n ds).flatten
  | 0, _ => .nil
  | n + 1, h => by
    rw [List.replicate_succ, List.replicate_succ, List.flatten_cons, List.flatten_cons]
    exact h.append (RpL.rep n h)
section
variable {X : Cx}
theorem opd_add : OpR X (binaryOp .Add) (rD X.F (dat2 dAdd)) := by
  intro pins s σ H x y v u Q I rx ry h
  obtain ⟨ρ, S, va, vb, r, S', hS, ha, hb, hg, hc⟩ := h
  obtain ⟨a, b, c, rfl, rfl, hd, rfl, rfl⟩ := dat2_ok hg
  have ha : Rp _ _ _ _ _ := ha
  have hb : Rp _ _ _ _ _ := hb
  unfold dAdd at hd
  split at hd
  · cases hd
    cases ha
    cases hb
    exact op_add pins s σ H _ _ v u Q I rx ry ⟨_, _, rfl, rfl, hc.here hS (show Rp _ _ _ _ _ from .int _)⟩
  · split at hd
    · rename_i hz
      cases hd
      cases ha with
      | str _ oa =>
        cases hb with
        | str _ ob => exact op_add_str pins s σ H _ _ v u Q I rx ry ⟨_, _, rfl, rfl, by rw [← SZ_eq]; exact hz, fin_str I hS (strOk_append oa ob) hc⟩
    · cases hd
  · split at hd
    · rename_i hz
      cases hd
      cases ha with
      | tup ta qa =>
        cases hb with
        | tup tb qb =>
          refine op_catF pins s σ H _ _ v u Q I rx ry ⟨_, _, _, _, rfl, rfl, ta.sq, tb.sq, by rw [qa.length, qb.length, ← SZ_eq]; exact hz, fun e => ?_, fun _ e => ?_, fun _ _ => fin_tup hS (qa.append qb) hc⟩
          · subst e
            cases qa
            exact hc.here hS (show Rp _ _ _ _ _ from .tup tb qb)
          · subst e
            cases qb
            rw [List.append_nil] at hc
            exact hc.here hS (show Rp _ _ _ _ _ from .tup ta qa)
    · cases hd
  · split at hd
    · rename_i hz
      cases hd
      cases ha with
      | lst ta qa =>
        cases hb with
        | lst tb qb => exact op_cat pins s σ H _ _ v u Q I rx ry ⟨_, _, _, _, rfl, rfl, ta.1, tb.1, by rw [qa.length, qb.length, ← SZ_eq]; exact hz, fin_lst hS (qa.append qb) hc⟩
    · cases hd
  · cases hd
theorem opd_sub : OpR X (binaryOp .Sub) (rD X.F (dat2 dSub)) := by
  intro pins s σ H x y v u Q I rx ry h
  obtain ⟨ρ, S, va, vb, r, S', hS, ha, hb, hg, hc⟩ := h
  obtain ⟨a, b, c, rfl, rfl, hd, rfl, rfl⟩ := dat2_ok hg
  have ha : Rp _ _ _ _ _ := ha
  have hb : Rp _ _ _ _ _ := hb
  unfold dSub at hd
  split at hd
  · cases hd
    cases ha
    cases hb
    exact op_sub pins s σ H _ _ v u Q I rx ry ⟨_, _, rfl, rfl, hc.here hS (show Rp _ _ _ _ _ from .int _)⟩
  · cases hd
theorem opd_fdiv : OpR X (binaryOp .FloorDiv) (rD X.F (dat2 dFdiv)) := by
  intro pins s σ H x y v u Q I rx ry h
  obtain ⟨ρ, S, va, vb, r, S', hS, ha, hb, hg, hc⟩ := h
  obtain ⟨a, b, c, rfl, rfl, hd, rfl, rfl⟩ := dat2_ok hg
  have ha : Rp _ _ _ _ _ := ha
  have hb : Rp _ _ _ _ _ := hb
  unfold dFdiv at hd
  split at hd
  · split at hd
    · rename_i hz
      cases hd
      cases ha
      cases hb
      exact op_fdivW pins s σ H _ _ v u Q I rx ry ⟨_, _, rfl, rfl, wide_div (b := 64) hz.1 (by omega) (by decide) (by decide), hc.here hS (show Rp _ _ _ _ _ from .int _)⟩
    · cases hd
  · cases hd
theorem opd_mod : OpR X (binaryOp .Mod) (rD X.F (dat2 dMod)) := by
  intro pins s σ H x y v u Q I rx ry h
  obtain ⟨ρ, S, va, vb, r, S', hS, ha, hb, hg, hc⟩ := h
  obtain ⟨a, b, c, rfl, rfl, hd, rfl, rfl⟩ := dat2_ok hg
  have ha : Rp _ _ _ _ _ := ha
  have hb : Rp _ _ _ _ _ := hb
  unfold dMod at hd
  split at hd
  · split at hd
    · rename_i hz
      cases hd
      cases ha
      cases hb
      exact op_mod pins s σ H _ _ v u Q I rx ry ⟨_, _, rfl, rfl, hz, hc.here hS (show Rp _ _ _ _ _ from .int _)⟩
    · cases hd
  · cases hd
theorem opd_pow : OpR X (binaryOp .Pow) (rD X.F (dat2 dPow)) := by
  intro pins s σ H x y v u Q I rx ry h
  obtain ⟨ρ, S, va, vb, r, S', hS, ha, hb, hg, hc⟩ := h
  obtain ⟨a, b, c, rfl, rfl, hd, rfl, rfl⟩ := dat2_ok hg
  have ha : Rp _ _ _ _ _ := ha
  have hb : Rp _ _ _ _ _ := hb
  unfold dPow at hd
  split at hd
  · split at hd
    · rename_i hz
      cases hd
      cases ha
      cases hb
      exact op_pow pins s σ H _ _ v u Q I rx ry ⟨_, _, rfl, rfl, hz, hc.here hS (show Rp _ _ _ _ _ from .int _)⟩
    · cases hd
  · cases hd
theorem foldl_rep_toList (a : Array Nat) : ∀ (n : Nat) (b : Array Nat), ((List.replicate n a).foldl (· ++ ·) b).toList = b.toList ++ (List.replicate n a.toList).flatten
  | 0, b => by simp
  | n + 1, b => by
    rw [List.replicate_succ, List.foldl_cons, foldl_rep_toList a n (b ++ a), List.replicate_succ, List.flatten_cons, Array.toList_append, List.append_assoc]
theorem strRep_mul (x : Str) (n : Int) : Txt.mul x n = strRep x n := by
  unfold Txt.mul strRep
  by_cases h1 : n < 1
  · rw [if_pos h1, show n.toNat = 0 by omega]
    rfl
  · rw [if_neg h1]
    by_cases h2 : (n == 1 || x.length == 0) = true
    · rw [if_pos h2]
      rcases Bool.or_eq_true_iff.mp h2 with h | h
      · have e : n = 1 := by simpa using h
        subst e
        cases x
        simp
      · have e : x.cps = #[] := by
          have : x.cps.size = 0 := by simpa [Str.length] using h
          exact Array.eq_empty_of_size_eq_zero this
        cases x
        simp only at e
        subst e
        have hr : ∀ m : Nat, (List.replicate m ([] : List Nat)).flatten = [] := fun m => by
          induction m with
          | zero => rfl
          | succ m ih => rw [List.replicate_succ, List.flatten_cons, ih]; rfl
        simp [hr]
    · rw [if_neg h2]
      have := foldl_rep_toList x.cps n.toNat #[]
      congr 1
      apply Array.toList_inj.mp
      simpa using this
theorem strOk_rep {x : Str} {n : Int} (h : PySem.PyData.strOk x = true) : PySem.PyData.strOk (strRep x n) = true := strOk_sub h fun c hc => by
  unfold strRep at hc
  simp only [List.mem_flatten, List.mem_replicate] at hc
  obtain ⟨l, ⟨_, rfl⟩, hc⟩ := hc
  exact hc
theorem mulOk_of {x : Str} {n : Int} (h : x.length * n.toNat ≤ SZ) (h1 : -(2 ^ 63) ≤ n) (h2 : n < 2 ^ 63) : MulOk x n := by
  refine ⟨?_, fun h3 h4 => ?_, fun h3 h4 => ?_⟩
  · rw [Bool.or_eq_false_iff]
    exact ⟨decide_eq_false (by omega), decide_eq_false (by omega)⟩
  · have hn : 0 < n := by omega
    intro h5
    have h6 : ((2 ^ 63 - 1 : Int) / n) * n ≤ 2 ^ 63 - 1 := Int.ediv_mul_le _ (by omega)
    have h7 : (2 ^ 63 - 1 : Int) < ((2 ^ 63 - 1 : Int) / n + 1) * n := Int.lt_ediv_add_one_mul_self _ hn
    have h8 : ((2 ^ 63 - 1 : Int) / n + 1) * n ≤ (x.length : Int) * n := Int.mul_le_mul_of_nonneg_right (by omega) (by omega)
    have h9 : ((x.length * n.toNat : Nat) : Int) = (x.length : Int) * n := by rw [Int.natCast_mul, Int.toNat_of_nonneg (by omega)]
    have h10 : (x.length : Int) * n ≤ 16777216 := by rw [← h9]; exact Int.ofNat_le.mpr h
    omega
  · unfold Builtin.Str.tooLong
    exact decide_eq_false (by rw [← SZ_eq]; omega)
theorem opd_mul : OpR X (binaryOp .Mult) (rD X.F (dat2 dMul)) := by
  intro pins s σ H x y v u Q I rx ry h
  obtain ⟨ρ, S, va, vb, r, S', hS, ha, hb, hg, hc⟩ := h
  obtain ⟨a, b, c, rfl, rfl, hd, rfl, rfl⟩ := dat2_ok hg
  have ha : Rp _ _ _ _ _ := ha
  have hb : Rp _ _ _ _ _ := hb
  unfold dMul at hd
  split at hd
  · split at hd
    · rename_i hz
      cases hd
      cases ha
      cases hb
      exact op_mul pins s σ H _ _ v u Q I rx ry ⟨_, _, rfl, rfl, hz, hc.here hS (show Rp _ _ _ _ _ from .int _)⟩
    · cases hd
  · split at hd
    · rename_i hz
      cases hd
      cases ha with
      | str _ oa =>
        cases hb
        obtain ⟨t, rfl⟩ := rx
        obtain ⟨t', rfl⟩ := ry
        refine PySem.SB.mul (mulOk_of hz.1 hz.2.1 hz.2.2) fun t2 k => ⟨.str _, H, I.tok k, ⟨t2, rfl⟩, ?_⟩
        rw [strRep_mul]
        exact fin_str I hS (strOk_rep oa) hc
    · cases hd
  · split at hd
    · rename_i hz
      cases hd
      cases ha with
      | lst ta qa =>
        cases hb
        exact op_rep pins s σ H _ _ v u Q I rx ry ⟨_, _, _, rfl, rfl, ta.1, hz.2.1, hz.2.2, by rw [qa.length, ← SZ_eq]; exact hz.1, fin_lst hS (RpL.rep _ qa) hc⟩
    · cases hd
  · cases hd
end
end L2.Pv

set_option Elab.async false
set_option linter.all false
set_option maxRecDepth 100000
/-! Pv: dicts by their entries -/
namespace L2.Pv
open PySem PySem.Spec PyProof.Rows L2

/-! ### keys -/
theorem nk_tup {ds : List PyData} : nkOf (.tuple ds) = (nksOf ds).map NestedKey.tup := by simp only [nkOf]
mutual
theorem nk_plain : ∀ (d : PyData) (k : NestedKey), nkOf d = some k → d.plain = true
  | .none, _, _ => rfl
  | .bool _, _, _ => rfl
  | .int _, _, _ => rfl
  | .str _, _, _ => rfl
  | .tuple ds, _, h => by
    rw [nk_tup] at h
    obtain ⟨ks, h1, _⟩ := Option.map_eq_some_iff.mp h
    have := nks_plain ds ks h1
    simpa [PyData.plain] using this
  | .list _, _, h => nomatch h
  | .dict _, _, h => nomatch h
theorem nks_plain : ∀ (ds : List PyData) (ks : List NestedKey), nksOf ds = some ks → PyData.plainAll ds = true
  | [], _, _ => rfl
  | d :: ds, _, h => by
    unfold nksOf at h
    split at h
    · rename_i k e
      obtain ⟨ks, h1, _⟩ := Option.map_eq_some_iff.mp h
      show (d.plain && PyData.plainAll ds) = true
      rw [nk_plain d k e, nks_plain ds ks h1]
      rfl
    · cases h
end
mutual
theorem nk_reads {h : Heap} : ∀ (d : PyData) (k : NestedKey) (v : Value) (as : List Addr), nkOf d = some k → Reads h v d as → NestedIs h k v
  | .none, _, _, _, e, r => by cases e; cases r; exact .none
  | .bool b, _, _, _, e, r => by cases e; cases r; exact .bool rfl
  | .int _, _, _, _, e, r => by cases e; cases r; exact .int _ _
  | .str _, _, _, _, e, r => by cases e; cases r; exact .text _ _
  | .tuple ds, _, _, _, e, r => by
    rw [nk_tup] at e
    obtain ⟨ks, h1, rfl⟩ := Option.map_eq_some_iff.mp e
    cases r with
    | tuple a b c d => exact .tup a b c (nks_reads ds ks _ _ h1 d)
  | .list _, _, _, _, e, _ => nomatch e
  | .dict _, _, _, _, e, _ => nomatch e
theorem nks_reads {h : Heap} : ∀ (ds : List PyData) (ks : List NestedKey) (vs : List Value) (as : List Addr), nksOf ds = some ks → ReadsAll h vs ds as → NestedAll h ks vs
  | [], _, _, _, e, r => by cases e; cases r; exact .nil
  | d :: ds, _, _, _, e, r => by
    unfold nksOf at e
    split at e
    · rename_i k e1
      obtain ⟨ks, h1, rfl⟩ := Option.map_eq_some_iff.mp e
      cases r with
      | cons a b => exact .cons (nk_reads d k _ _ e1 a) (nks_reads ds ks _ _ h1 b)
    · cases e
end
/-- a key that is no tuple -/
def lkOf : PyData → Option Key
  | .int i => some (.inl i)
  | .str x => some (.inr x)
  | _ => none
theorem lk_nk {d : PyData} {k : Key} (h : lkOf d = some k) : ∃ n, nkOf d = some n ∧ (mixKind P w).hash k = n.hash w := by
  cases d <;> cases h
  · exact ⟨_, rfl, rfl⟩
  · exact ⟨_, rfl, rfl⟩
theorem keyB_cases {d : PyData} (h : keyB d = true) : (isTupD d = false ∧ ∃ k, lkOf d = some k) ∨ (isTupD d = true ∧ ∃ k, nkOf d = some k ∧ k.depth ≤ 8) := by
  unfold keyB at h
  split at h
  · exact .inl ⟨rfl, _, rfl⟩
  · exact .inl ⟨rfl, _, rfl⟩
  · refine .inr ⟨rfl, ?_⟩
    split at h
    · rename_i k e
      exact ⟨k, e, of_decide_eq_true h⟩
    · cases h
  · cases h
theorem keyB_nk {d : PyData} (h : keyB d = true) : ∃ k, nkOf d = some k := by
  rcases keyB_cases h with ⟨_, k, e⟩ | ⟨_, k, e, _⟩
  · cases d <;> cases e <;> exact ⟨_, rfl⟩
  · exact ⟨k, e⟩
theorem lk_inj {a b : PyData} {k l : Key} (ha : lkOf a = some k) (hb : lkOf b = some l) : keq a b = decide (k = l) := by
  cases a <;> cases ha <;> cases b <;> cases hb <;> simp [keq, nkOf]
/-- the dict at a -/
def DctAt (K : Fg) (H : Hp) (m : List Addr) (a : Addr) (kds : Kvs) : Prop := KvsOk kds ∧ ∃ es ep, H a = some (dO a es ep) ∧ RpD K H m es kds
theorem RpD.length {K : Fg} {H : Hp} {m : List Addr} : ∀ {kds : Kvs} {es : List DictEntry}, RpD K H m es kds → es.length = kds.length
  | [], _, h => by cases h; rfl
  | _ :: _, _, h => by
    cases h with
    | cons a b p q r s t => show _ + 1 = _ + 1; rw [RpD.length t]

section
variable {X : Cx} {pins : List (Addr × Obj)} {σ : L2.St} {H : Hp} {s : Shared} {m : List Addr} {a : Addr} {kds : Kvs} {kd : PyData} {es : List DictEntry} {ep : Nat} {x : V} {u : Value}
theorem key_nested (I : Inv X pins σ H s) {k : NestedKey} (h : Rp X.F H m x kd) (r : RelV x u) (e : nkOf kd = some k) : NestedIs s.heap k u := by
  obtain ⟨as, q⟩ := Dp.reads I kd x u (Rp.dp kd x (nk_plain kd k e) h) r
  exact nk_reads kd k u as e q
theorem dO_in (I : Inv X pins σ H s) (h : H a = some (dO a es ep)) : (a == sysModules) = false ∧ es.length ≤ sizeLine ∧ ∃ o, s.heap.get? a = some o ∧ o.ExactDict ∧ o.data = .dict es.toArray ep := (I.hok a _ h).1
theorem dO_ok {P : Program} {w : World} {H' : Hp} {h' : Heap} {o : Obj} (h1 : (a == sysModules) = false) (h2 : es.length ≤ sizeLine) (h3 : h'.get? a = some o) (h4 : o.ExactDict) (h5 : o.data = .dict es.toArray ep) : ObjOk P w H' h' a (dO a es ep) :=
  ⟨⟨h1, h2, o, h3, h4, h5⟩, ⟨o, h3⟩, fun g1 g2 ⟨y1, y2, o', y3, y4, y5⟩ k => ⟨y1, y2, o', k o' y3, y4, y5⟩⟩
/-- the entries of a dict of tuples -/
def XR (K : Fg) (H : Hp) (m : List Addr) : Kvs → List (NestedKey × Addr × Value) → Prop :=
  Paired fun (p : PyData × PyData) (q : NestedKey × Addr × Value) => nkOf p.1 = some q.1 ∧ Rp K H m (.ref q.2.1) p.1 ∧ ∃ v, RelV v q.2.2 ∧ Rp K H m v p.2
theorem xr_of : ∀ {kds : Kvs} {es : List DictEntry}, RpD X.F H m es kds → (∀ p ∈ kds, isTupD p.1 = true) → ∃ xs, XR X.F H m kds xs ∧ es = xs.map (entryOfKey (nestedKind X.prog X.w))
  | [], _, h, _ => by cases h; exact ⟨[], .nil, rfl⟩
  | (kd, vd) :: kds, _, h, ht => by
    cases h with
    | @cons e es _ _ _ k x v a1 b p q r s1 t =>
      obtain ⟨xs, h1, h2⟩ := xr_of t fun p hp => ht p (List.mem_cons_of_mem _ hp)
      have h0 : isTupD kd = true := ht _ List.mem_cons_self
      cases kd with
      | tuple ds =>
        cases q with
        | @tup c ys _ ta qa =>
          refine ⟨(k, c, e.val) :: xs, .cons ⟨a1, .tup ta qa, v, r, s1⟩ h1, ?_⟩
          rw [List.map_cons, ← h2]
          congr 1
          have p' : e.key = Value.ref c := p
          cases e
          simp only at p' b
          rw [p', b]
          rfl
      | _ => cases h0
theorem xr_back {K : Fg} {P : Program} : ∀ {kds : Kvs} {xs : List (NestedKey × Addr × Value)}, XR K H m kds xs → RpD K H m (xs.map (entryOfKey (nestedKind P K.w))) kds
  | _, _, .nil => .nil
  | _, _, .cons (b := q) ⟨h1, h2, v, h3, h4⟩ t => .cons (x := .ref q.2.1) h1 rfl rfl h2 h3 h4 (xr_back t)
theorem xr_look {K : Fg} {k : NestedKey} (e : nkOf kd = some k) : ∀ {kds : Kvs} {xs : List (NestedKey × Addr × Value)}, XR K H m kds xs → (dLook kds kd = none ∧ atKey xs k = none) ∨ ∃ vd p v, dLook kds kd = some vd ∧ atKey xs k = some p ∧ RelV v p.2 ∧ Rp K H m v vd
  | _, _, .nil => .inl ⟨rfl, rfl⟩
  | _, _, .cons (a := p) (b := q) ⟨h1, h2, v, h3, h4⟩ t => by
    have hk : keq p.1 kd = decide (q.1 = k) := by
      unfold keq
      rw [h1, e]
      by_cases z : q.1 = k
      · rw [z, decide_eq_true rfl, decide_eq_true rfl]
      · rw [decide_eq_false z, decide_eq_false fun y => z (Option.some.inj y)]
    unfold dLook atKey
    rw [List.find?_cons, List.find?_cons, hk]
    by_cases z : q.1 = k
    · rw [decide_eq_true z]
      exact .inr ⟨p.2, q.2, v, rfl, rfl, h3, h4⟩
    · rw [decide_eq_false z]
      exact xr_look e t
theorem xr_any {K : Fg} {k : NestedKey} (e : nkOf kd = some k) {kds : Kvs} {xs : List (NestedKey × Addr × Value)} (h : XR K H m kds xs) : kds.any (fun p => keq p.1 kd) = (atKey xs k).isSome := by
  have q : ∀ l : Kvs, l.any (fun p => keq p.1 kd) = (dLook l kd).isSome := fun l => by
    induction l with
    | nil => rfl
    | cons p r ih =>
      unfold dLook at ih ⊢
      rw [List.any_cons, List.find?_cons, ih]
      cases keq p.1 kd <;> rfl
  rw [q]
  rcases xr_look e h with ⟨h1, h2⟩ | ⟨vd, p, v, h1, h2, _⟩ <;> rw [h1, h2] <;> rfl
theorem xr_put {K : Fg} {k : NestedKey} {b : Addr} {vd : PyData} {v : V} {w' : Value} (e : nkOf kd = some k) (hb : Rp K H m (.ref b) kd) (rv : RelV v w') (hv : Rp K H m v vd) {kds : Kvs} {xs : List (NestedKey × Addr × Value)} (h : XR K H m kds xs) : XR K H m (dPut kds kd vd) (storedH xs k b w') := by
  have hm : ∀ {kds : Kvs} {xs : List (NestedKey × Addr × Value)}, XR K H m kds xs → XR K H m (kds.map fun p => if keq p.1 kd then (p.1, vd) else p) (xs.map (putAt k w')) := by
    intro kds xs h
    induction h with
    | nil => exact .nil
    | @cons p q ps qs hq t ih =>
      rw [List.map_cons, List.map_cons]
      refine .cons ?_ ih
      obtain ⟨h1, h2, z, h3, h4⟩ := hq
      have hk : keq p.1 kd = decide (q.1 = k) := by
        unfold keq
        rw [h1, e]
        by_cases z : q.1 = k
        · rw [z, decide_eq_true rfl, decide_eq_true rfl]
        · rw [decide_eq_false z, decide_eq_false fun y => z (Option.some.inj y)]
      unfold putAt
      rw [hk]
      by_cases z : q.1 = k
      · rw [decide_eq_true z, if_pos rfl, if_pos z]
        exact ⟨h1, h2, v, rv, hv⟩
      · rw [decide_eq_false z, if_neg Bool.false_ne_true, if_neg z]
        exact ⟨h1, h2, _, h3, h4⟩
  unfold dPut storedH
  rw [xr_any e h]
  split
  · exact hm h
  · exact pairedAppend h (.cons ⟨e, hb, v, rv, hv⟩ .nil)
theorem nodup_of {α β : Type} {f : α → β} : ∀ {l : List α}, (l.map f).Nodup → l.Nodup
  | [], _ => List.nodup_nil
  | a :: l, h => by
    rw [List.map_cons, List.nodup_cons] at h
    exact List.nodup_cons.mpr ⟨fun z => h.1 (List.mem_map.mpr ⟨a, z, rfl⟩), nodup_of h.2⟩
theorem xr_nodup {K : Fg} {kds : Kvs} {xs : List (NestedKey × Addr × Value)} (h : XR K H m kds xs) (n : (kds.map fun p => nkOf p.1).Nodup) : (xs.map (·.1)).Nodup := by
  have e : kds.map (fun p => nkOf p.1) = (xs.map (·.1)).map some := by
    clear n
    induction h with
    | nil => rfl
    | cons hq t ih => rw [List.map_cons, List.map_cons, List.map_cons, hq.1, ih]
  rw [e] at n
  exact nodup_of n
theorem xr_in (I : Inv X pins σ H s) {kds : Kvs} {xs : List (NestedKey × Addr × Value)} (h : XR X.F H m kds xs) (hk : ∀ p ∈ kds, keyB p.1 = true) : ∀ x ∈ xs, (nestedKind X.prog X.w).is s.heap x.1 x.2.1 := by
  induction h with
  | nil => exact fun x hx => nomatch hx
  | @cons p q ps qs hq t ih =>
    intro x hx
    rcases List.mem_cons.mp hx with rfl | hx
    · refine ⟨key_nested I hq.2.1 rfl hq.1, ?_⟩
      rcases keyB_cases (hk p List.mem_cons_self) with ⟨_, k, e⟩ | ⟨_, k, e, hd⟩
      · have h1 : nkOf p.1 = some x.1 := hq.1
        generalize x.1 = y at h1
        revert e h1
        cases p.1 <;> intro e h1 <;> cases e <;> cases h1 <;> exact Nat.zero_le _
      · rw [hq.1] at e
        cases e
        exact hd
    · exact ih (fun p hp => hk p (List.mem_cons_of_mem _ hp)) x hx
theorem dct_H (I : Inv X pins σ H s) (ok : KvsOk kds) (ht : ∀ p ∈ kds, isTupD p.1 = true) (h : H a = some (dO a es ep)) (r : RpD X.F H m es kds) : ∃ xs, XR X.F H m kds xs ∧ s.heap.DictOfH (nestedKind X.prog X.w) a xs ∧ xs.length ≤ sizeLine := by
  obtain ⟨xs, h1, h2⟩ := xr_of (X := X) r ht
  obtain ⟨h3, h4, o, h5, h6, h7⟩ := dO_in I h
  refine ⟨xs, h1, ⟨o, es.toArray, ep, h5, h6, h7, by simpa using h2, xr_in I h1 ok.key, xr_nodup h1 ok.nd⟩, ?_⟩
  rw [h2, List.length_map] at h4
  exact h4
/-- the entries of a dict of ints and texts -/
def LR (K : Fg) (H : Hp) (m : List Addr) : Kvs → List (Key × Value) → Prop :=
  Paired fun (p : PyData × PyData) (q : Key × Value) => lkOf p.1 = some q.1 ∧ Rp K H m (kV q.1) p.1 ∧ ∃ v, RelV v q.2 ∧ Rp K H m v p.2
theorem lr_of : ∀ {kds : Kvs} {es : List DictEntry}, RpD X.F H m es kds → (∀ p ∈ kds, ∃ k, lkOf p.1 = some k) → ∃ vs, LR X.F H m kds vs ∧ Pairs (mixKind X.prog X.w) es vs ∧ ∀ e ∈ es, ∃ k, (mixKind X.prog X.w).is k e.key = true ∧ e.hash = (mixKind X.prog X.w).hash k
  | [], _, h, _ => by cases h; exact ⟨[], .nil, .nil, fun e he => nomatch he⟩
  | (kd, vd) :: kds, _, h, ht => by
    cases h with
    | @cons e es _ _ _ k x v a1 b p q r s1 t =>
      obtain ⟨vs, h1, h2, h3⟩ := lr_of t fun p hp => ht p (List.mem_cons_of_mem _ hp)
      obtain ⟨l, hl⟩ := ht _ List.mem_cons_self
      have hx : x = kV l := by
        cases kd <;> cases hl <;> cases q <;> rfl
      subst hx
      have his := kV_is (P := X.prog) (w := X.w) p
      obtain ⟨n, e1, e2⟩ := lk_nk (P := X.prog) (w := X.w) hl
      rw [a1] at e1
      cases e1
      refine ⟨(l, e.val) :: vs, .cons ⟨hl, q, v, r, s1⟩ h1, .cons his rfl h2, fun e' he => ?_⟩
      rcases List.mem_cons.mp he with rfl | he
      · exact ⟨l, his, b.trans e2.symm⟩
      · exact h3 e' he
theorem relV_kV {P : Program} {w : World} {k : Key} {u : Value} (h : (mixKind P w).is k u = true) : RelV (kV k) u := by
  rcases keyIs_shape (show keyIs k u = true from h) with ⟨i, t, rfl, rfl⟩ | ⟨y, t, rfl, rfl⟩
  · exact ⟨t, rfl⟩
  · exact ⟨t, rfl⟩
theorem lr_back {K : Fg} {P : Program} : ∀ {kds : Kvs} {vs : List (Key × Value)} {es : List DictEntry}, LR K H m kds vs → Pairs (mixKind P K.w) es vs → (∀ e ∈ es, ∃ k, (mixKind P K.w).is k e.key = true ∧ e.hash = (mixKind P K.w).hash k) → RpD K H m es kds
  | _, _, _, .nil, h, _ => by cases h; exact .nil
  | _, _, _, .cons ⟨h1, h2, v, h3, h4⟩ t, h, hk => by
    cases h with
    | cons p1 p2 p3 =>
      obtain ⟨n, e1, e2⟩ := lk_nk (P := P) (w := K.w) h1
      obtain ⟨k, k1, k2⟩ := hk _ List.mem_cons_self
      have e : k = _ := (mixKind P K.w).inj _ _ _ k1 p1
      subst e
      exact .cons e1 (k2.trans e2) (relV_kV p1) h2 (by rw [p2]; exact h3) h4 (lr_back t p3 fun e he => hk e (List.mem_cons_of_mem _ he))
theorem lr_look {K : Fg} {k : Key} (e : lkOf kd = some k) : ∀ {kds : Kvs} {vs : List (Key × Value)}, LR K H m kds vs → (dLook kds kd = none ∧ valueAt vs k = none) ∨ ∃ vd w' v, dLook kds kd = some vd ∧ valueAt vs k = some w' ∧ RelV v w' ∧ Rp K H m v vd
  | _, _, .nil => .inl ⟨rfl, rfl⟩
  | _, _, .cons (a := p) (b := q) ⟨h1, h2, v, h3, h4⟩ t => by
    have hk := lk_inj h1 e
    unfold dLook valueAt
    rw [List.find?_cons, List.find?_cons, hk]
    by_cases z : q.1 = k
    · rw [decide_eq_true z]
      exact .inr ⟨p.2, q.2, v, rfl, rfl, h3, h4⟩
    · rw [decide_eq_false z]
      exact lr_look e t
theorem lr_put {K : Fg} {k : Key} {vd : PyData} {v : V} {w' : Value} (e : lkOf kd = some k) (hb : Rp K H m (kV k) kd) (rv : RelV v w') (hv : Rp K H m v vd) {kds : Kvs} {vs : List (Key × Value)} (h : LR K H m kds vs) : LR K H m (dPut kds kd vd) (stored vs k w') := by
  unfold dPut stored
  have ha : kds.any (fun p => keq p.1 kd) = vs.any fun kv => decide (kv.1 = k) := by
    induction h with
    | nil => rfl
    | cons hq t ih => rw [List.any_cons, List.any_cons, ih, lk_inj hq.1 e]
  rw [ha]
  have hm : ∀ {kds : Kvs} {vs : List (Key × Value)}, LR K H m kds vs → LR K H m (kds.map fun p => if keq p.1 kd then (p.1, vd) else p) (vs.map fun kv => if kv.1 = k then (kv.1, w') else kv) := by
    intro kds vs h
    induction h with
    | nil => exact .nil
    | @cons p q ps qs hq t ih =>
      rw [List.map_cons, List.map_cons]
      refine .cons ?_ ih
      obtain ⟨h1, h2, z, h3, h4⟩ := hq
      rw [lk_inj h1 e]
      by_cases z : q.1 = k
      · rw [decide_eq_true z, if_pos rfl, if_pos z]
        exact ⟨h1, h2, v, rv, hv⟩
      · rw [decide_eq_false z, if_neg Bool.false_ne_true, if_neg z]
        exact ⟨h1, h2, _, h3, h4⟩
  split
  · exact hm h
  · exact pairedAppend h (.cons ⟨e, hb, v, rv, hv⟩ .nil)
theorem lr_nodup {K : Fg} {kds : Kvs} {vs : List (Key × Value)} (h : LR K H m kds vs) (n : (kds.map fun p => nkOf p.1).Nodup) : (vs.map (·.1)).Nodup := by
  let f : Key → Option NestedKey := fun k => match k with | .inl i => some (.num i) | .inr x => some (.text x)
  have e : kds.map (fun p => nkOf p.1) = (vs.map (·.1)).map f := by
    clear n
    induction h with
    | nil => rfl
    | @cons p q ps qs hq t ih =>
      rw [List.map_cons, List.map_cons, List.map_cons, ih]
      congr 1
      have h1 : lkOf p.1 = some q.1 := hq.1
      generalize q.1 = y at h1 ⊢
      revert h1
      cases p.1 <;> intro h1 <;> cases h1 <;> rfl
  rw [e] at n
  exact nodup_of n
theorem dct_L (I : Inv X pins σ H s) (ok : KvsOk kds) (ht : ∀ p ∈ kds, isTupD p.1 = false) (h : H a = some (dO a es ep)) (r : RpD X.F H m es kds) : ∃ vs, LR X.F H m kds vs ∧ s.heap.DictOf (mixKind X.prog X.w) a vs ∧ vs.length ≤ sizeLine := by
  have hl : ∀ p ∈ kds, ∃ k, lkOf p.1 = some k := fun p hp => by
    rcases keyB_cases (ok.key p hp) with ⟨_, k, e⟩ | ⟨h1, _⟩
    · exact ⟨k, e⟩
    · rw [ht p hp] at h1
      cases h1
  obtain ⟨vs, h1, h2, h3⟩ := lr_of (X := X) r hl
  obtain ⟨h4, h5, o, h6, h7, h8⟩ := dO_in I h
  refine ⟨vs, h1, ⟨o, es.toArray, ep, h6, h7, h8, fun e he => h3 e (by simpa using he), by simpa using h2, lr_nodup h1 ok.nd⟩, ?_⟩
  rw [← h2.length]
  exact h5
theorem kind_of (ok : KvsOk kds) (h : kindB kds kd = true) : keyB kd = true ∧ ((isTupD kd = true ∧ ∀ p ∈ kds, isTupD p.1 = true) ∨ (isTupD kd = false ∧ ∀ p ∈ kds, isTupD p.1 = false)) := by
  unfold kindB at h
  rw [Bool.and_eq_true] at h
  refine ⟨h.1, ?_⟩
  cases kds with
  | nil =>
    cases e : isTupD kd with
    | true => exact .inl ⟨rfl, fun p hp => nomatch hp⟩
    | false => exact .inr ⟨rfl, fun p hp => nomatch hp⟩
  | cons p r =>
    have h2 : isTupD p.1 = isTupD kd := by simpa using h.2
    rcases ok.kind with q | q
    · exact .inl ⟨h2.symm.trans (q p List.mem_cons_self), q⟩
    · exact .inr ⟨h2.symm.trans (q p List.mem_cons_self), q⟩
theorem tup_key (I : Inv X pins σ H s) (ht : isTupD kd = true) (hk : keyB kd = true) (hx : Rp X.F H m x kd) (rx : RelV x u) : ∃ b k, x = .ref b ∧ u = .ref b ∧ nkOf kd = some k ∧ (nestedKind X.prog X.w).is s.heap k b := by
  rcases keyB_cases hk with ⟨h, _⟩ | ⟨_, k, e, hd⟩
  · rw [ht] at h; cases h
  · cases kd with
    | tuple ds =>
      cases hx with
      | @tup b ys _ ta qa =>
        obtain rfl : u = .ref b := rx
        exact ⟨b, k, rfl, rfl, e, key_nested I (.tup ta qa) rfl e, hd⟩
    | _ => cases ht
theorem lf_key (ht : isTupD kd = false) (hk : keyB kd = true) (hx : Rp X.F H m x kd) (rx : RelV x u) : ∃ k, x = kV k ∧ lkOf kd = some k ∧ (mixKind X.prog X.w).is k u = true := by
  rcases keyB_cases hk with ⟨_, k, e⟩ | ⟨h, _⟩
  · have hx' : x = kV k := by
      cases kd <;> cases e <;> cases hx <;> rfl
    subst hx'
    exact ⟨k, rfl, e, kV_is rx⟩
  · rw [ht] at h; cases h
theorem put_ok (ok : KvsOk kds) (hk : kindB kds kd = true) {vd : PyData} : KvsOk (dPut kds kd vd) := by
  obtain ⟨h1, h2⟩ := kind_of ok hk
  have hm : (kds.map fun p => if keq p.1 kd then (p.1, vd) else p).map (·.1) = kds.map (·.1) := by
    rw [List.map_map]
    refine List.map_congr_left fun p _ => ?_
    show (if keq p.1 kd = true then (p.1, vd) else p).1 = p.1
    split <;> rfl
  have hmn : (kds.map fun p => if keq p.1 kd then (p.1, vd) else p).map (fun p => nkOf p.1) = kds.map fun p => nkOf p.1 := by
    have := congrArg (List.map nkOf) hm
    simpa [List.map_map, Function.comp_def] using this
  have hmem : ∀ p ∈ (kds.map fun p => if keq p.1 kd then (p.1, vd) else p), ∃ q ∈ kds, q.1 = p.1 := fun p hp => by
    obtain ⟨q, hq, rfl⟩ := List.mem_map.mp hp
    exact ⟨q, hq, by split <;> rfl⟩
  unfold dPut
  split
  · refine ⟨fun p hp => ?_, ?_, by rw [hmn]; exact ok.nd⟩
    · obtain ⟨q, hq, e⟩ := hmem p hp
      rw [← e]; exact ok.key q hq
    · rcases ok.kind with k | k
      · exact .inl fun p hp => let ⟨q, hq, e⟩ := hmem p hp; by rw [← e]; exact k q hq
      · exact .inr fun p hp => let ⟨q, hq, e⟩ := hmem p hp; by rw [← e]; exact k q hq
  · rename_i hn
    refine ⟨fun p hp => ?_, ?_, ?_⟩
    · rcases List.mem_append.mp hp with hp | hp
      · exact ok.key p hp
      · rw [List.mem_singleton.mp hp]; exact h1
    · rcases h2 with ⟨e, k⟩ | ⟨e, k⟩
      · refine .inl fun p hp => ?_
        rcases List.mem_append.mp hp with hp | hp
        · exact k p hp
        · rw [List.mem_singleton.mp hp]; exact e
      · refine .inr fun p hp => ?_
        rcases List.mem_append.mp hp with hp | hp
        · exact k p hp
        · rw [List.mem_singleton.mp hp]; exact e
    · rw [List.map_append, List.nodup_append]
      refine ⟨ok.nd, by simp, fun a ha b hb e => ?_⟩
      obtain ⟨q, hq, rfl⟩ := List.mem_map.mp ha
      have hb' : b = nkOf kd := by simpa using hb
      refine hn ?_
      rw [List.any_eq_true]
      refine ⟨q, hq, ?_⟩
      unfold keq
      rw [e, hb', decide_eq_true rfl]
theorem put_len {kds : Kvs} {vd : PyData} : (dPut kds kd vd).length ≤ kds.length + 1 := by
  unfold dPut
  split <;> simp

section
variable {A : Around} {E : Value → Shared → Prop}
theorem DctAt.typeIs (I : Inv X pins σ H s) (D : DctAt X.F H m a kds) : s.TypeIs (.ref a) "dict" ∧ (∀ b, Value.ref a = .ref b → ∃ ob, s.heap.get? b = some ob ∧ ob.dict = none) ∧ (a == sysModules) = false := by
  obtain ⟨_, es, ep, h, _⟩ := D
  obtain ⟨h1, h2, o, h3, h4, h5⟩ := dO_in I h
  exact ⟨⟨o, h3, h4.1⟩, fun b e => by cases e; exact ⟨o, h3, h4.2.1⟩, h1⟩
/-- d[k] -/
theorem dd_getItem {Q : Value → Shared → Prop} {vd : PyData} (hu : A.units + 64 < cLine) (I : Inv X pins σ H s) (D : DctAt X.F H m a kds) (hk : kindB kds kd = true) (hx : Rp X.F H m x kd) (rx : RelV x u) (hl : dLook kds kd = some vd)
    (h : ∀ w' s' v, Inv X pins σ H s' → RelV v w' → Rp X.F H m v vd → Q w' s') : wpAny (model X.prog X.w) A (getItem (.ref a) u) Q E s := by
  obtain ⟨ok, es, ep, ha, hr⟩ := D
  obtain ⟨k1, k2⟩ := kind_of ok hk
  rcases k2 with ⟨e, k2⟩ | ⟨e, k2⟩
  · obtain ⟨b, k, rfl, rfl, e2, his⟩ := tup_key I e k1 hx rx
    obtain ⟨xs, h1, h2, h3⟩ := dct_H I ok k2 ha hr
    rcases xr_look e2 h1 with ⟨h4, _⟩ | ⟨vd', p, v, h4, h5, h6, h7⟩
    · rw [hl] at h4; cases h4
    · rw [hl] at h4; cases h4
      exact wpAny_getItem_heap (by show A.in1.units + 8 < cLine; rw [Around.in1_units]; omega) his h2 h5 (h _ _ v (I.tok _) h6 h7)
  · obtain ⟨k, rfl, e2, his⟩ := lf_key e k1 hx rx
    obtain ⟨vs, h1, h2, h3⟩ := dct_L I ok k2 ha hr
    rcases lr_look e2 h1 with ⟨h4, _⟩ | ⟨vd', w', v, h4, h5, h6, h7⟩
    · rw [hl] at h4; cases h4
    · rw [hl] at h4; cases h4
      exact wpAny_getItem_of his h2.mapOf h5 (h _ _ v (I.tok _) h6 h7)
/-- k in d, k not in d -/
theorem dd_in {Q : Value → Shared → Prop} (hu : A.units + 64 < cLine) (I : Inv X pins σ H s) (D : DctAt X.F H m a kds) (hk : kindB kds kd = true) (hx : Rp X.F H m x kd) (rx : RelV x u)
    (h : ∀ s', Inv X pins σ H s' → Q (.bool (dLook kds kd).isSome) s') : wpAny (model X.prog X.w) A (compareOp .In u (.ref a)) Q E s := by
  have hd := (D.typeIs I).2.2
  obtain ⟨ok, es, ep, ha, hr⟩ := D
  obtain ⟨k1, k2⟩ := kind_of ok hk
  rcases k2 with ⟨e, k2⟩ | ⟨e, k2⟩
  · obtain ⟨b, k, rfl, rfl, e2, his⟩ := tup_key I e k1 hx rx
    obtain ⟨xs, h1, h2, h3⟩ := dct_H I ok k2 ha hr
    refine wpAny_in_heap (by show A.in1.units + 8 < cLine; rw [Around.in1_units]; omega) his hd h2 ?_
    rcases xr_look e2 h1 with ⟨h4, h5⟩ | ⟨vd', p, v, h4, h5, _⟩ <;> (rw [h5]; rw [h4] at h; exact h _ (I.tok _))
  · obtain ⟨k, rfl, e2, his⟩ := lf_key e k1 hx rx
    obtain ⟨vs, h1, h2, h3⟩ := dct_L I ok k2 ha hr
    refine wpAny_in_of his hd h2.mapOf ?_
    rcases lr_look e2 h1 with ⟨h4, h5⟩ | ⟨vd', p, v, h4, h5, _⟩ <;> (rw [h5]; rw [h4] at h; exact h _ (I.tok _))
theorem dd_notIn {Q : Value → Shared → Prop} (hu : A.units + 64 < cLine) (I : Inv X pins σ H s) (D : DctAt X.F H m a kds) (hk : kindB kds kd = true) (hx : Rp X.F H m x kd) (rx : RelV x u)
    (h : ∀ s', Inv X pins σ H s' → Q (.bool (!(dLook kds kd).isSome)) s') : wpAny (model X.prog X.w) A (compareOp .NotIn u (.ref a)) Q E s := by
  have hd := (D.typeIs I).2.2
  obtain ⟨ok, es, ep, ha, hr⟩ := D
  obtain ⟨k1, k2⟩ := kind_of ok hk
  rcases k2 with ⟨e, k2⟩ | ⟨e, k2⟩
  · obtain ⟨b, k, rfl, rfl, e2, his⟩ := tup_key I e k1 hx rx
    obtain ⟨xs, h1, h2, h3⟩ := dct_H I ok k2 ha hr
    refine wpAny_notIn_heap (by show A.in1.units + 8 < cLine; rw [Around.in1_units]; omega) his hd h2 ?_
    rcases xr_look e2 h1 with ⟨h4, h5⟩ | ⟨vd', p, v, h4, h5, _⟩ <;> (rw [h5]; rw [h4] at h; exact h _ (I.tok _))
  · obtain ⟨k, rfl, e2, his⟩ := lf_key e k1 hx rx
    obtain ⟨vs, h1, h2, h3⟩ := dct_L I ok k2 ha hr
    refine wpAny_notIn_of his hd h2.mapOf ?_
    rcases lr_look e2 h1 with ⟨h4, h5⟩ | ⟨vd', p, v, h4, h5, _⟩ <;> (rw [h5]; rw [h4] at h; exact h _ (I.tok _))
/-- d.get(k), d.get(k, y) -/
theorem dd_get1 {Q : Value → Shared → Prop} (hu : A.units + 64 < cLine) (I : Inv X pins σ H s) (D : DctAt X.F H m a kds) (hk : kindB kds kd = true) (hx : Rp X.F H m x kd) (rx : RelV x u)
    (h : ∀ w' s' v, Inv X pins σ H s' → RelV v w' → Rp X.F H m v ((dLook kds kd).getD .none) → Q w' s') : wpAny (model X.prog X.w) A (call (.builtin "dict.get") [.ref a, u]) Q E s := by
  have hd := (D.typeIs I).2.2
  obtain ⟨ok, es, ep, ha, hr⟩ := D
  obtain ⟨k1, k2⟩ := kind_of ok hk
  rcases k2 with ⟨e, k2⟩ | ⟨e, k2⟩
  · obtain ⟨b, k, rfl, rfl, e2, his⟩ := tup_key I e k1 hx rx
    obtain ⟨xs, h1, h2, h3⟩ := dct_H I ok k2 ha hr
    refine call_meetsIn PySem.F.slot_dict_get h2.typeIs PySem.F.entry_dict_get (PySem.F.args_dict_get_2 _ _) (meetsH_dict_get (nestedKind X.prog X.w) a b hd) ⟨by show A.in1.units + 8 < cLine; rw [Around.in1_units]; omega, k, xs, his, h2, ?_⟩
    rcases xr_look e2 h1 with ⟨h4, h5⟩ | ⟨vd', p, v, h4, h5, h6, h7⟩
    · rw [h5]; rw [h4] at h; exact h _ _ .non (I.tok _) rfl .non
    · rw [h5]; rw [h4] at h; exact h _ _ v (I.tok _) h6 h7
  · obtain ⟨k, rfl, e2, his⟩ := lf_key e k1 hx rx
    obtain ⟨vs, h1, h2, h3⟩ := dct_L I ok k2 ha hr
    refine call_meetsIn PySem.F.slot_dict_get h2.typeIs PySem.F.entry_dict_get (PySem.F.args_dict_get_2 _ _) (meets_dict_get (mixKind X.prog X.w) a his hd) ⟨_, h2.mapOf, ?_⟩
    rcases lr_look e2 h1 with ⟨h4, h5⟩ | ⟨vd', p, v, h4, h5, h6, h7⟩
    · rw [h5]; rw [h4] at h; exact h _ _ .non (I.tok _) rfl .non
    · rw [h5]; rw [h4] at h; exact h _ _ v (I.tok _) h6 h7
theorem dd_get2 {Q : Value → Shared → Prop} {y : V} {r : Value} (hu : A.units + 64 < cLine) (I : Inv X pins σ H s) (D : DctAt X.F H m a kds) (hk : kindB kds kd = true) (hx : Rp X.F H m x kd) (rx : RelV x u) (ry : RelV y r)
    (h1' : ∀ vd w' s' v, dLook kds kd = some vd → Inv X pins σ H s' → RelV v w' → Rp X.F H m v vd → Q w' s') (h2' : ∀ s', dLook kds kd = none → Inv X pins σ H s' → Q r s') : wpAny (model X.prog X.w) A (call (.builtin "dict.get") [.ref a, u, r]) Q E s := by
  have hd := (D.typeIs I).2.2
  obtain ⟨ok, es, ep, ha, hr⟩ := D
  obtain ⟨k1, k2⟩ := kind_of ok hk
  rcases k2 with ⟨e, k2⟩ | ⟨e, k2⟩
  · obtain ⟨b, k, rfl, rfl, e2, his⟩ := tup_key I e k1 hx rx
    obtain ⟨xs, h1, h2, h3⟩ := dct_H I ok k2 ha hr
    refine call_meetsIn PySem.F.slot_dict_get h2.typeIs PySem.F.entry_dict_get (PySem.F.args_dict_get_3 _ _ _) (meetsH_dict_get_default (nestedKind X.prog X.w) a b hd r) ⟨by show A.in1.units + 8 < cLine; rw [Around.in1_units]; omega, k, xs, his, h2, ?_⟩
    rcases xr_look e2 h1 with ⟨h4, h5⟩ | ⟨vd', p, v, h4, h5, h6, h7⟩
    · rw [h5]; exact h2' _ h4 (I.tok _)
    · rw [h5]; exact h1' vd' _ _ v h4 (I.tok _) h6 h7
  · obtain ⟨k, rfl, e2, his⟩ := lf_key e k1 hx rx
    obtain ⟨vs, h1, h2, h3⟩ := dct_L I ok k2 ha hr
    refine call_meetsIn PySem.F.slot_dict_get h2.typeIs PySem.F.entry_dict_get (PySem.F.args_dict_get_3 _ _ _) (meets_dict_get_default (mixKind X.prog X.w) a his hd r) ⟨_, h2.mapOf, ?_⟩
    rcases lr_look e2 h1 with ⟨h4, h5⟩ | ⟨vd', p, v, h4, h5, h6, h7⟩
    · rw [h5]; exact h2' _ h4 (I.tok _)
    · rw [h5]; exact h1' vd' _ _ v h4 (I.tok _) h6 h7
/-- d[k] = v -/
theorem dd_setItem {Q : Unit → Shared → Prop} {y : V} {r : Value} {vd : PyData} (hu : A.units + 64 < cLine) (I : Inv X pins σ H s) (D : DctAt X.F H m a kds) (hk : kindB kds kd = true) (hl : kds.length < sizeLine) (hx : Rp X.F H m x kd) (rx : RelV x u) (ry : RelV y r) (hy : Rp X.F H m y vd)
    (h : ∀ es' ep' s', RpD X.F H m es' (dPut kds kd vd) → Inv X pins σ (upd H a (dO a es' ep')) s' → Q () s') : wpAny (model X.prog X.w) A (setItem (.ref a) u r) Q E s := by
  have hd := (D.typeIs I).2.2
  obtain ⟨ok, es, ep, ha, hr⟩ := D
  obtain ⟨k1, k2⟩ := kind_of ok hk
  have mu : Mut (H a) := by rw [ha]; exact True.intro
  have fin : ∀ {es' : List DictEntry} {ep' : Nat} {h' : Heap} {t' : Nat} {o : Obj}, RpD X.F H m es' (dPut kds kd vd) → Heap.SameBut a s.heap h' → h'.get? a = some o → o.ExactDict → o.data = .dict es'.toArray ep' → Q () { s with heap := h', toks := t' } := fun {es' ep' h' t' o} q1 q2 q3 q4 q5 => by
    refine h es' ep' _ q1 (d_write I mu q2 ⟨o, q3⟩ (dO_ok hd ?_ q3 q4 q5))
    have := put_len (kds := kds) (kd := kd) (vd := vd)
    rw [q1.length]
    omega
  rcases k2 with ⟨e, k2⟩ | ⟨e, k2⟩
  · obtain ⟨b, k, rfl, rfl, e2, his⟩ := tup_key I e k1 hx rx
    obtain ⟨xs, h1, h2, h3⟩ := dct_H I ok k2 ha hr
    refine wpAny_setItem_heap (hsz := h3) (by show A.in1.units + 8 < cLine; rw [Around.in1_units]; omega) his h2 fun h' dd' hs => ?_
    obtain ⟨o, es', ep', q1, q2, q3, q4, _, _⟩ := dd'
    exact fin (es' := es'.toList) (xr_back (P := X.prog) (xr_put e2 hx ry hy h1) |> fun z => by rw [q4]; exact z) hs q1 q2 (by rw [Array.toArray_toList]; exact q3)
  · obtain ⟨k, rfl, e2, his⟩ := lf_key e k1 hx rx
    obtain ⟨vs, h1, h2, h3⟩ := dct_L I ok k2 ha hr
    refine wpAny_setItem_pairs (hsz := h3) his h2 fun h' dd' hs => ?_
    obtain ⟨o, es', ep', q1, q2, q3, q4, q5, _⟩ := dd'
    exact fin (es' := es'.toList) (lr_back (P := X.prog) (lr_put e2 hx ry hy h1) q5 fun e he => q4 e (by simpa using he)) hs q1 q2 (by rw [Array.toArray_toList]; exact q3)
/-- {} -/
theorem dd_new (I : Inv X pins σ H s) (t : Nat) : ObjOk X.prog X.w H' (s.heap.push { cls := .type "dict", data := .dict #[] }) s.heap.objs.size (dO s.heap.objs.size [] 0) :=
  dO_ok (by simpa using Nat.ne_of_gt I.big) (Nat.zero_le _) (Heap.get?_push_size _ rfl) ⟨rfl, rfl, rfl⟩ rfl
/-- len(d) -/
theorem dd_len {Q : Value → Shared → Prop} (I : Inv X pins σ H s) (D : DctAt X.F H m a kds) (hl : kds.length ≤ sizeLine)
    (h : ∀ t s', Inv X pins σ H s' → Q (.int kds.length t) s') : wpAny (model X.prog X.w) A (call (.builtin "len") [.ref a]) Q E s := by
  have hd := (D.typeIs I).2.2
  have hz : (kds.length : Int) < 2 ^ 63 := by have := sizeLine_eq; omega
  obtain ⟨ok, es, ep, ha, hr⟩ := D
  rcases ok.kind with k2 | k2
  · obtain ⟨xs, h1, h2, h3⟩ := dct_H I ok k2 ha hr
    have e := Paired.length h1
    refine call_len_dictH hd h2 (by rw [← e]; exact hz) ?_
    rw [← e]
    exact h _ _ (I.tok _)
  · obtain ⟨vs, h1, h2, h3⟩ := dct_L I ok k2 ha hr
    have e := Paired.length h1
    refine call_len_dict hd h2 (by rw [← e]; exact hz) ?_
    rw [← e]
    exact h _ _ (I.tok _)
end
theorem RpD.keys {K : Fg} : ∀ {kds : Kvs} {es : List DictEntry}, RpD K H m es kds → ∃ xs : List V, RpL K H m xs (kds.map (·.1)) ∧ Paired (fun (x : V) (e : DictEntry) => RelV x e.key) xs es
  | [], _, h => by cases h; exact ⟨[], .nil, .nil⟩
  | (kd, vd) :: kds, _, h => by
    cases h with
    | cons a1 b p q r s1 t =>
      obtain ⟨xs, h1, h2⟩ := RpD.keys t
      exact ⟨_ :: xs, .cons q h1, .cons p h2⟩
/-- list(d) -/
theorem dd_list {Q : VK} (hc : X.calm = true) (I : Inv X pins σ H s) (D : DctAt X.F H m a kds)
    (h : ∀ xs p, RpL X.F H m xs (kds.map (·.1)) → H p = none → Q (.ref p) (upd H p (.lst xs))) : wpAny (model X.prog X.w) X.A (call (.type "list") [.ref a]) (EP X pins σ Q) X.xe s := by
  obtain ⟨ok, es, ep, ha, hr⟩ := D
  obtain ⟨h1, h2, o, h3, h4, h5⟩ := dO_in I ha
  obtain ⟨xs, h6, h7⟩ := hr.keys
  have hl := Paired.length h7
  refine PySem.W.kdl_call (kdl_raw h1 h4 h5) (I.ok.hd hc) h3 (by simpa using h2) fun h' tk acc' c' kp e it => ?_
  have hsz : acc'.toList.length = es.length := by rw [Array.length_toList, it.1]; simp
  have rv : Vals xs acc'.toList := by
    refine vals_of_at (by rw [hsz]; exact hl) fun j x w e1 e2 => ?_
    obtain ⟨en, hen, hv⟩ := it.2 j w (by rw [← Array.getElem?_toList]; exact e2)
    obtain ⟨e', e3, e4⟩ := pairedGet h7 e1
    have e5 : es[j]? = some en := by simpa using hen
    rw [e5] at e3
    cases e3
    rw [hv]
    exact e4
  refine ⟨.ref s.heap.objs.size, _, I.laid (t' := tk) (o := .lst xs) kp (Nat.le_refl _) ?_, rfl, h xs _ h6 (I.hok.fresh (Nat.le_refl _))⟩
  exact ⟨by rw [hl]; exact h2, acc'.toList, c', rv, by rw [Array.toArray_toList]; exact e⟩
end
/-! ### the keys walked -/
theorem relV_inj {x y : V} {v : Value} (h1 : RelV x v) (h2 : RelV y v) : x = y := by
  cases x <;> cases y <;> simp only [RelV] at h1 h2 <;> first
    | rfl
    | (subst h1; cases h2; rfl; done)
    | (subst h1; cases h2; done)
    | (subst h1; obtain ⟨t, h2⟩ := h2; cases h2; done)
    | (obtain ⟨t, rfl⟩ := h1; cases h2; done)
    | (obtain ⟨t, rfl⟩ := h1; obtain ⟨u, h2⟩ := h2; cases h2; rfl; done)
    | (obtain ⟨t, rfl⟩ := h1; obtain ⟨u, h2⟩ := h2; cases h2; done)
def Itd (a : Addr) (es : List DictEntry) (ep : Nat) : It :=
  ⟨fun i H => H a = some (dO a es ep) ∧ i < es.length, fun i H x H' => H' = H ∧ ∃ e, es[i]? = some e ∧ RelV x e.key, fun i H => H a = some (dO a es ep) ∧ es.length ≤ i⟩
theorem rel_ex (v : Value) (h : ∃ x : V, RelV x v) : ∃ x : V, RelV x v := h
theorem turn_d {P : Program} {w : World} {K : PySem.W.Frag} {tg : Expr} {a : Addr} {es : List DictEntry} {ep : Nat} (it : Addr) (hes : ∀ e ∈ es, ∃ x : V, RelV x e.key) : Turn P w K tg (Itd a es ep) [it] it (fun i h => h.IsKeyIter it a i es.length ep) where
  mem := by simp
  obj := fun i h st b hb => by
    have e : b = it := by simpa using hb
    subst e
    obtain ⟨oi, e, c, dd⟩ := st
    exact ⟨oi, e, fun v z => by rw [dd] at z; cases z⟩
  keep := fun i h h' st k => st.at fun oi e => k it (by simp) oi e
  item := by
    intro X hP hw hK hc i pins s σ H E I hf st hg
    subst hP hw hK
    obtain ⟨hd, hi⟩ := hg
    obtain ⟨f0, f1, f2, f3, f4, f5⟩ := hf it (by simp)
    obtain ⟨h1, h2, o, h3, h4, h5⟩ := dO_in I hd
    have hen : es[i]? = some es[i] := List.getElem?_eq_getElem hi
    obtain ⟨x, hx⟩ := hes es[i] (List.getElem_mem hi)
    refine next_key_item st h3 h5 (by simp) (en := es[i]) (by simpa using hen) fun h' st' sb => ?_
    have I1 : Inv X pins σ H { s with heap := h' } := I.turned (t' := s.toks) (fun b ob hb e => (sb.2 b hb).trans e) f0 f1 f3 f4 f5
    obtain ⟨oi, e, c, dd⟩ := id st'
    exact ⟨es[i].key, rfl, go_of (s := { s with heap := h' }) e c dd (by decide) ⟨x, H, I1, hx, ⟨rfl, _, hen, hx⟩, st', fun b hb => (hf b hb).1⟩⟩
  done := by
    intro X hP hw hK hc i pins s σ H E I hf st hg
    subst hP hw hK
    obtain ⟨hd, hi⟩ := hg
    obtain ⟨f0, f1, f2, f3, f4, f5⟩ := hf it (by simp)
    obtain ⟨h1, h2, o, h3, h4, h5⟩ := dO_in I hd
    exact next_key_end (I.ok.hd hc) st h3 h5 (by simp) hi fun h' eb => ⟨rfl, I.turned (t' := s.toks) (fun b ob hb e => eb b ob hb e) f0 f1 f3 f4 f5⟩
  self := fun A i s Q E st h => by
    refine wpAny_pyIter_slot st.typeIs F.slot_dict_keyiterator_iter (wpAny_call_entry F.slot_dict_keyiterator_iter st.typeIs F.entry_dict_keyiterator_iter ?_ (F.args_dict_keyiterator_iter_1 _))
    show wpAny _ _ (ret (.ref it)) _ _ s
    exact wpAny_pure ⟨_, rfl, "dict_keyiterator", _, st.typeIs, F.slot_dict_keyiterator_next.lookup, h⟩
def iDct (td : TE) : TI := fun σ H R => td σ H fun x H1 => ∃ a es ep, x = .ref a ∧ H1 a = some (dO a es ep) ∧ (∀ e ∈ es, ∃ x : V, RelV x e.key) ∧ R (Itd a es ep) H1
theorem pi_dct {X : Cx} {tg e : Expr} {td : TE} (he : PE X e td) : PI X tg e (iDct td) := by
  refine ⟨fun pins s σ H R I h => ?_⟩
  refine thn (he.run pins s σ H _ I h) fun u s1 ⟨x, H1, I1, rx, a, es, ep, ex, hd, hes, q⟩ => ?_
  subst ex
  obtain rfl : u = Value.ref a := rx
  obtain ⟨h1, h2, o, h3, h4, h5⟩ := dO_in I1 hd
  refine iter_keys h1 h3 h4 h5 (pi_one (tk := s1.toks) I1 _ (turn_d _ hes) ⟨_, Heap.get?_push_size _ rfl, rfl, ?_⟩ q)
  simp
/-- the walk yields the keys -/
theorem itr_d {K : Fg} {H : Hp} {m : List Addr} {a : Addr} {es : List DictEntry} {ep : Nat} {kds : Kvs} (h : H a = some (dO a es ep)) (hm : a ∉ m) (r : RpD K H m es kds) : ∀ m1 H1, Cov m H m1 H1 → (∀ i d, (kds.map (·.1))[i]? = some d → (Itd a es ep).go i H1 ∧ ∀ x H2, (Itd a es ep).yld i H1 x H2 → (H2 = H1 ∨ ∃ T o, H1 T = none ∧ H2 = upd H1 T o) ∧ Rp K H2 m1 x d) ∧ ∀ i, (kds.map (·.1)).length ≤ i → (Itd a es ep).stop i H1 := fun m1 H1 cv => by
  have h1 := cv.keep _ _ h hm
  obtain ⟨xs, k1, k2⟩ := (RpD.cov cv _ _ r).keys
  have hl := Paired.length k2
  have hl2 := k1.length
  refine ⟨fun i d e => ?_, fun i hi => ⟨h1, by omega⟩⟩
  obtain ⟨x, e1, e2⟩ := k1.get e
  obtain ⟨en, e3, e4⟩ := pairedGet k2 e1
  refine ⟨⟨h1, (List.getElem?_eq_some_iff.mp e3).1⟩, fun y H2 hy => ?_⟩
  obtain ⟨rfl, en', e5, e6⟩ := hy
  rw [e3] at e5
  cases e5
  rw [relV_inj e6 e4]
  exact ⟨.inl rfl, e2⟩
theorem keys_rel {K : Fg} {H : Hp} {m : List Addr} {es : List DictEntry} {kds : Kvs} (r : RpD K H m es kds) : ∀ e ∈ es, ∃ x : V, RelV x e.key := by
  obtain ⟨xs, _, k2⟩ := r.keys
  intro e he
  obtain ⟨i, hi, rfl⟩ := List.mem_iff_getElem.mp he
  obtain ⟨x, _, h⟩ := pairedGetR k2 (List.getElem?_eq_getElem hi)
  exact ⟨x, h⟩
end L2.Pv

set_option Elab.async false
set_option linter.all false
set_option maxRecDepth 100000
namespace L2.Pv
open PySem PySem.Spec PyProof.Rows L2

/-! ### comparisons -/
def dEqB (a b : PyData) : Option Bool := if min a.depth b.depth ≤ 60 ∧ a.plain = true ∧ b.plain = true then some (PyData.eqv a b) else none
def dLtB : PyData → PyData → Option Bool
  | .int i, .int j => some (decide (i < j))
  | .str a, .str b => some (decide (a.cps.toList < b.cps.toList))
  | .tuple a, .tuple b => if PySem.W.alike (.tuple a) (.tuple b) = true ∧ min (PyData.depth (.tuple a)) (PyData.depth (.tuple b)) ≤ 60 ∧ PyData.plain (.tuple a) = true ∧ PyData.plain (.tuple b) = true then some (PySem.W.dataLt (.tuple a) (.tuple b)) else none
  | .list a, .list b => if PySem.W.alike (.list a) (.list b) = true ∧ min (PyData.depth (.list a)) (PyData.depth (.list b)) ≤ 60 ∧ PyData.plain (.list a) = true ∧ PyData.plain (.list b) = true then some (PySem.W.dataLt (.list a) (.list b)) else none
  | _, _ => none
def dInB : PyData → PyData → Option Bool
  | .str a, .str z => match a.cps.toList with
    | [c] => some (decide (c ∈ z.cps.toList))
    | _ => some (!(Builtin.Str.occurrences z a 0 z.length 1).isEmpty)
  | d, .list ds => if min (PyData.depthAll ds) d.depth ≤ 60 ∧ PyData.plainAll ds = true ∧ d.plain = true then some (ds.any fun z => PyData.eqv z d) else none
  | d, .tuple ds => if min (PyData.depthAll ds) d.depth ≤ 60 ∧ PyData.plainAll ds = true ∧ d.plain = true then some (ds.any fun z => PyData.eqv z d) else none
  | d, .dict kds => if kindB kds d = true then some (dLook kds d).isSome else none
  | _, _ => none
def obl : Option Bool → Option PyData := Option.map .bool
def onot : Option Bool → Option Bool := Option.map (!·)
def dEq (a b : PyData) : Option PyData := obl (dEqB a b)
def dNe (a b : PyData) : Option PyData := obl (onot (dEqB a b))
def dLt (a b : PyData) : Option PyData := obl (dLtB a b)
def dGt (a b : PyData) : Option PyData := obl (dLtB b a)
def dLe (a b : PyData) : Option PyData := obl (onot (dLtB b a))
def dGe (a b : PyData) : Option PyData := obl (onot (dLtB a b))
def dIn (a b : PyData) : Option PyData := obl (dInB a b)
def dNotIn (a b : PyData) : Option PyData := obl (onot (dInB a b))

theorem obl_ok {o : Option Bool} {c : PyData} (h : obl o = some c) : ∃ b, o = some b ∧ c = .bool b := by
  cases o with
  | none => cases h
  | some b => cases h; exact ⟨b, rfl, rfl⟩
theorem onot_ok {o : Option Bool} {c : Bool} (h : onot o = some c) : ∃ b, o = some b ∧ c = !b := by
  cases o with
  | none => cases h
  | some b => cases h; exact ⟨b, rfl, rfl⟩

/-! ### a store's object read -/
def lstOf (S : Sto) (n : Nat) : Option (List PyData) := match S[n]? with
  | some (.lst ds) => some ds
  | _ => none
theorem lstOf_ok {S : Sto} {n : Nat} {ds : List PyData} (h : lstOf S n = some ds) : S[n]? = some (.lst ds) := by
  unfold lstOf at h
  split at h
  · rename_i e
    cases h
    exact e
  · cases h
def dctOf (S : Sto) (n : Nat) : Option Kvs := match S[n]? with
  | some (.dct ds) => some ds
  | _ => none
theorem dctOf_ok {S : Sto} {n : Nat} {ds : Kvs} (h : dctOf S n = some ds) : S[n]? = some (.dct ds) := by
  unfold dctOf at h
  split at h
  · rename_i e
    cases h
    exact e
  · cases h
theorem dct_no {S : Sto} {n : Nat} {ds : List PyData} (h : lstOf S n = some ds) : dctOf S n = none := by
  unfold dctOf
  rw [lstOf_ok h]
theorem lst_no {S : Sto} {n : Nat} {ds : Kvs} (h : dctOf S n = some ds) : lstOf S n = none := by
  unfold lstOf
  rw [dctOf_ok h]
section
variable {K : Fg} {H : Hp} {ρ : Pl} {S : Sto}
/-- a dict, whatever it is -/
def dcV (S : Sto) : Vl → Option Kvs
  | .d (.dict kds) => some kds
  | .o n => dctOf S n
  | _ => none
theorem StR.dctAt (h : StR K ρ S H) {n : Nat} {a : Addr} {kds : Kvs} (ha : ρ.ad[n]? = some a) (ho : dctOf S n = some kds) : a ∈ ρ.m ∧ DctAt K H ρ.m a kds := by
  obtain ⟨h1, es, ep, h2, h3, h4⟩ := h.get ha (dctOf_ok ho)
  exact ⟨h1, h3, es, ep, h2, h4⟩
theorem dc_rp (h : StR K ρ S H) {v : Vl} {x : V} {kds : Kvs} (hv : Vr K H ρ x v) (e : dcV S v = some kds) : ∃ a, x = .ref a ∧ DctAt K H ρ.m a kds := by
  unfold dcV at e
  split at e
  · cases e
    cases (show Rp _ _ _ _ _ from hv) with
    | dct h1 h2 h3 h4 => exact ⟨_, rfl, h3, _, _, h1, h4⟩
  · obtain ⟨a, ha, rfl⟩ := hv
    exact ⟨a, rfl, (h.dctAt ha e).2⟩
  · cases e
theorem StR.lstAt (h : StR K ρ S H) {n : Nat} {a : Addr} {ds : List PyData} (ha : ρ.ad[n]? = some a) (ho : lstOf S n = some ds) : ∃ xs, H a = some (.lst xs) ∧ RpL K H ρ.m xs ds := (h.get ha (lstOf_ok ho)).2
theorem StR.lstIn (h : StR K ρ S H) {n : Nat} {a : Addr} {ds : List PyData} (ha : ρ.ad[n]? = some a) (ho : lstOf S n = some ds) : a ∈ ρ.m := (h.get ha (lstOf_ok ho)).1
/-- what a value shows when it is only read -/
def rdV (S : Sto) : Vl → Option PyData
  | .d d => some d
  | .o n => match lstOf S n with
    | some ds => some (.list ds)
    | none => (dctOf S n).map .dict
  | .k _ => none
theorem rdV_rp (hS : StR K ρ S H) {v : Vl} {x : V} {d : PyData} (h : Vr K H ρ x v) (e : rdV S v = some d) : Rp K H [] x d := by
  cases v with
  | d d0 =>
    cases e
    exact Rp.cov (Cov.less (fun a z => by cases z)) _ _ (show Rp K H ρ.m x d from h)
  | o n =>
    obtain ⟨a, ha, rfl⟩ := h
    simp only [rdV] at e
    split at e
    · rename_i ds e1
      cases e
      obtain ⟨xs, h1, h2⟩ := hS.lstAt ha e1
      exact .lst ⟨h1, fun z => by cases z⟩ (RpL.cov (Cov.less (fun a z => by cases z)) _ _ h2)
    · obtain ⟨kds, e1, rfl⟩ := Option.map_eq_some_iff.mp e
      obtain ⟨_, h3, es, ep, h2, h4⟩ := hS.dctAt ha e1
      exact .dct h2 (fun z => by cases z) h3 (RpD.cov (Cov.less (fun a z => by cases z)) _ _ h4)
  | k ds => cases e
end
/-- an operation on what is read -/
def cmp2 (h : PyData → PyData → Option PyData) : G2 := fun a b S => match rdV S a with
  | some a => match rdV S b with
    | some b => lft S (h a b)
    | none => .bad
  | none => .bad
theorem cmp2_ok {h : PyData → PyData → Option PyData} {va vb r : Vl} {S S' : Sto} (e : cmp2 h va vb S = .ok r S') : ∃ a b c, rdV S va = some a ∧ rdV S vb = some b ∧ h a b = some c ∧ r = .d c ∧ S' = S := by
  unfold cmp2 at e
  split at e
  · rename_i a ha
    split at e
    · rename_i b hb
      obtain ⟨c, h1, h2, h3⟩ := lft_ok e
      exact ⟨a, b, c, ha, hb, h1, h2, h3⟩
    · cases e
  · cases e

section
variable {X : Cx} {pins : List (Addr × Obj)} {σ : L2.St} {H : Hp} {s : Shared} {ρ : Pl} {m : List Addr} {S : Sto} {Q : VK}
theorem rd_reads (I : Inv X pins σ H s) {d : PyData} {x : V} {u : Value} (p : d.plain = true) (h : Rp X.F H m x d) (r : RelV x u) : ∃ as, Reads s.heap u d as := Dp.reads I d x u (Rp.dp d x p h) r
/-- an operation on data that yields a bool -/
theorem opd_bool {f : Value → Value → Sem Value} {g : PyData → PyData → Option PyData} (h : ∀ (a b : PyData) (c : Bool) (x y : V) (v u : Value) (pins : List (Addr × Obj)) (s : Shared) (σ : L2.St) (H : Hp) (m : List Addr) (Q : Value → Shared → Prop),
      Inv X pins σ H s → RelV x v → RelV y u → Rp X.F H m x a → Rp X.F H m y b → g a b = some (.bool c) → (∀ s', Inv X pins σ H s' → Q (.bool c) s') → wpAny (model X.prog X.w) X.A (f v u) Q X.xe s) (hg : ∀ a b c, g a b = some c → ∃ k, c = .bool k) : OpR X f (rD X.F (cmp2 g)) := by
  intro pins s σ H x y v u Q I rx ry hh
  obtain ⟨ρ, S, va, vb, r, S', hS, ha, hb, hgg, hc⟩ := hh
  obtain ⟨a, b, c, ea, eb, hd, rfl, rfl⟩ := cmp2_ok hgg
  obtain ⟨k, rfl⟩ := hg _ _ _ hd
  exact h a b k x y v u pins s σ H [] _ I rx ry (rdV_rp hS ha ea) (rdV_rp hS hb eb) hd fun s' I' => ⟨.bl k, H, I', rfl, hc.here hS (show Rp _ _ _ _ _ from .bl k)⟩
variable (hu : X.A.units + 64 < cLine)
include hu
theorem opd_eq : OpR X (compareOp .Eq) (rD X.F (cmp2 dEq)) := opd_bool (fun a b c x y v u pins s σ H m Q I rx ry ha hb hd q => by
    obtain ⟨k, h1, h2⟩ := obl_ok hd
    cases h2
    unfold dEqB at h1
    split at h1
    · rename_i hz
      cases h1
      obtain ⟨as, r1⟩ := rd_reads I hz.2.1 ha rx
      obtain ⟨bs, r2⟩ := rd_reads I hz.2.2 hb ry
      exact SeqAt.compareEq_reads r1 r2 (Rp.lay _ _ hz.2.1 ha) (Rp.lay _ _ hz.2.2 hb) (by omega) (q s I)
    · cases h1) fun a b c h => let ⟨k, _, e⟩ := obl_ok h; ⟨k, e⟩
theorem opd_ne : OpR X (compareOp .NotEq) (rD X.F (cmp2 dNe)) := opd_bool (fun a b c x y v u pins s σ H m Q I rx ry ha hb hd q => by
    obtain ⟨k0, h0, h2⟩ := obl_ok hd
    cases h2
    obtain ⟨k, h1, rfl⟩ := onot_ok h0
    unfold dEqB at h1
    split at h1
    · rename_i hz
      cases h1
      obtain ⟨as, r1⟩ := rd_reads I hz.2.1 ha rx
      obtain ⟨bs, r2⟩ := rd_reads I hz.2.2 hb ry
      exact SeqAt.compareNe_reads r1 r2 (Rp.lay _ _ hz.2.1 ha) (Rp.lay _ _ hz.2.2 hb) (by omega) (q s I)
    · cases h1) fun a b c h => let ⟨k, _, e⟩ := obl_ok h; ⟨k, e⟩
theorem dLtB_inv {a b : PyData} {k : Bool} (h : dLtB a b = some k) : PySem.W.alike a b = true ∧ a ≠ .none ∧ b ≠ .none ∧ X.A.units + min a.depth b.depth < cLine ∧ (k = PySem.W.dataLt a b ∧ a.plain = true ∧ b.plain = true) := by
  unfold dLtB at h
  split at h
  · cases h
    exact ⟨rfl, (fun z => nomatch z), (fun z => nomatch z), by show X.A.units + min 0 0 < cLine; omega, (PySem.W.dataLt_int _ _).symm, rfl, rfl⟩
  · cases h
    exact ⟨rfl, (fun z => nomatch z), (fun z => nomatch z), by show X.A.units + min 0 0 < cLine; omega, (PySem.W.dataLt_str _ _).symm, rfl, rfl⟩
  · split at h
    · rename_i hz
      cases h
      exact ⟨hz.1, (fun z => nomatch z), (fun z => nomatch z), by omega, rfl, hz.2.2⟩
    · cases h
  · split at h
    · rename_i hz
      cases h
      exact ⟨hz.1, (fun z => nomatch z), (fun z => nomatch z), by omega, rfl, hz.2.2⟩
    · cases h
  · cases h
theorem opd_lt : OpR X (compareOp .Lt) (rD X.F (cmp2 dLt)) := opd_bool (fun a b c x y v u pins s σ H m Q I rx ry ha hb hd q => by
    obtain ⟨k, h1, h2⟩ := obl_ok hd
    cases h2
    obtain ⟨h3, h4, h5, h6, rfl, p1, p2⟩ := dLtB_inv hu h1
    obtain ⟨as, r1⟩ := rd_reads I p1 ha rx
    obtain ⟨bs, r2⟩ := rd_reads I p2 hb ry
    exact PySem.W.lt_data r1 r2 h3 h4 h6 (q s I)) fun a b c h => let ⟨k, _, e⟩ := obl_ok h; ⟨k, e⟩
omit hu in
mutual
theorem alike_symm : ∀ (a b : PyData), PySem.W.alike a b = true → PySem.W.alike b a = true
  | .none, b, h => by cases b <;> first | rfl | (simp [PySem.W.alike] at h)
  | .bool _, b, h => by cases b <;> first | rfl | (simp [PySem.W.alike] at h)
  | .int _, b, h => by cases b <;> first | rfl | (simp [PySem.W.alike] at h)
  | .str _, b, h => by cases b <;> first | rfl | (simp [PySem.W.alike] at h)
  | .list xs, b, h => by
    cases b with
    | list ys => exact alikeAll_symm xs ys h
    | _ => simp [PySem.W.alike] at h
  | .tuple xs, b, h => by
    cases b with
    | tuple ys => exact alikeAll_symm xs ys h
    | _ => simp [PySem.W.alike] at h
  | .dict _, b, h => by cases b <;> simp [PySem.W.alike] at h
theorem alikeAll_symm : ∀ (a b : List PyData), PySem.W.alikeAll a b = true → PySem.W.alikeAll b a = true
  | [], [], h => rfl
  | [], _ :: _, h => rfl
  | _ :: _, [], h => rfl
  | x :: xs, y :: ys, h => by
    have h' := PySem.W.alike_all_cons h
    show (PySem.W.alike y x && PySem.W.alikeAll ys xs) = true
    rw [alike_symm x y h'.1, alikeAll_symm xs ys h'.2]
    rfl
end
theorem opd_gt : OpR X (compareOp .Gt) (rD X.F (cmp2 dGt)) := opd_bool (fun a b c x y v u pins s σ H m Q I rx ry ha hb hd q => by
    obtain ⟨k, h1, h2⟩ := obl_ok hd
    cases h2
    obtain ⟨h3, h4, h5, h6, rfl, p1, p2⟩ := dLtB_inv hu h1
    obtain ⟨as, r1⟩ := rd_reads I p2 ha rx
    obtain ⟨bs, r2⟩ := rd_reads I p1 hb ry
    exact PySem.W.gt_data r1 r2 (alike_symm _ _ h3) h5 (by rw [Nat.min_comm]; exact h6) (q s I)) fun a b c h => let ⟨k, _, e⟩ := obl_ok h; ⟨k, e⟩
theorem opd_le : OpR X (compareOp .LtE) (rD X.F (cmp2 dLe)) := opd_bool (fun a b c x y v u pins s σ H m Q I rx ry ha hb hd q => by
    obtain ⟨k0, h0, h2⟩ := obl_ok hd
    cases h2
    obtain ⟨k, h1, rfl⟩ := onot_ok h0
    obtain ⟨h3, h4, h5, h6, rfl, p1, p2⟩ := dLtB_inv hu h1
    obtain ⟨as, r1⟩ := rd_reads I p2 ha rx
    obtain ⟨bs, r2⟩ := rd_reads I p1 hb ry
    exact PySem.W.le_data r1 r2 (alike_symm _ _ h3) h5 (by rw [Nat.min_comm]; exact h6) (q s I)) fun a b c h => let ⟨k, _, e⟩ := obl_ok h; ⟨k, e⟩
theorem opd_ge : OpR X (compareOp .GtE) (rD X.F (cmp2 dGe)) := opd_bool (fun a b c x y v u pins s σ H m Q I rx ry ha hb hd q => by
    obtain ⟨k0, h0, h2⟩ := obl_ok hd
    cases h2
    obtain ⟨k, h1, rfl⟩ := onot_ok h0
    obtain ⟨h3, h4, h5, h6, rfl, p1, p2⟩ := dLtB_inv hu h1
    obtain ⟨as, r1⟩ := rd_reads I p1 ha rx
    obtain ⟨bs, r2⟩ := rd_reads I p2 hb ry
    exact PySem.W.ge_data r1 r2 h3 h4 h6 (q s I)) fun a b c h => let ⟨k, _, e⟩ := obl_ok h; ⟨k, e⟩
theorem opd_in : OpR X (compareOp .In) (rD X.F (cmp2 dIn)) := opd_bool (fun a b c x y v u pins s σ H m Q I rx ry ha hb hd q => by
    obtain ⟨k, h1, h2⟩ := obl_ok hd
    cases h2
    unfold dInB at h1
    split at h1
    · rename_i a0 z0
      cases ha
      cases hb
      obtain ⟨t, rfl⟩ := rx
      obtain ⟨t', rfl⟩ := ry
      split at h1
      · rename_i c0 hc
        cases h1
        have e : a0 = ⟨#[c0]⟩ := by
          cases a0
          simp only at hc
          congr 1
          apply Array.toList_inj.mp
          exact hc
        subst e
        refine PyProof.Rows.in_str ?_
        rw [PySem.StrLaws.found_one z0 c0]
        exact q s I
      · cases h1
        exact PyProof.Rows.in_str (q s I)
    · split at h1
      · rename_i hz
        cases h1
        obtain ⟨as, r1⟩ := rd_reads I hz.2.2 ha rx
        obtain ⟨bs, r2⟩ := rd_reads I (d := .list _) (by simpa [PyData.plain] using hz.2.1) hb ry
        exact SeqAt.in_list_reads r2 r1 (Rp.lay (.list _) _ (by simpa [PyData.plain] using hz.2.1) hb) (Rp.lay _ _ hz.2.2 ha) (by omega) (q s I)
      · cases h1
    · split at h1
      · rename_i hz
        cases h1
        obtain ⟨as, r1⟩ := rd_reads I hz.2.2 ha rx
        obtain ⟨bs, r2⟩ := rd_reads I (d := .tuple _) (by simpa [PyData.plain] using hz.2.1) hb ry
        exact SeqAt.in_tuple_reads r2 r1 (Rp.lay (.tuple _) _ (by simpa [PyData.plain] using hz.2.1) hb) (Rp.lay _ _ hz.2.2 ha) (by omega) (q s I)
      · cases h1
    · split at h1
      · rename_i hz
        cases h1
        cases hb with
        | dct b1 b2 b3 b4 =>
          cases ry
          exact dd_in hu I ⟨b3, _, _, b1, b4⟩ hz ha rx fun s' I' => q s' I'
      · cases h1
    · cases h1) fun a b c h => let ⟨k, _, e⟩ := obl_ok h; ⟨k, e⟩
theorem opd_notIn : OpR X (compareOp .NotIn) (rD X.F (cmp2 dNotIn)) := opd_bool (fun a b c x y v u pins s σ H m Q I rx ry ha hb hd q => by
    obtain ⟨k0, h0, h2⟩ := obl_ok hd
    cases h2
    obtain ⟨k, h1, rfl⟩ := onot_ok h0
    unfold dInB at h1
    split at h1
    · rename_i a0 z0
      cases ha
      cases hb
      obtain ⟨t, rfl⟩ := rx
      obtain ⟨t', rfl⟩ := ry
      split at h1
      · rename_i c0 hc
        cases h1
        have e : a0 = ⟨#[c0]⟩ := by
          cases a0
          simp only at hc
          congr 1
          apply Array.toList_inj.mp
          exact hc
        subst e
        refine PyProof.Rows.notIn_str ?_
        rw [PySem.StrLaws.found_one z0 c0]
        exact q s I
      · cases h1
        exact PyProof.Rows.notIn_str (q s I)
    · split at h1
      · rename_i hz
        cases h1
        obtain ⟨as, r1⟩ := rd_reads I hz.2.2 ha rx
        obtain ⟨bs, r2⟩ := rd_reads I (d := .list _) (by simpa [PyData.plain] using hz.2.1) hb ry
        exact SeqAt.notIn_list_reads r2 r1 (Rp.lay (.list _) _ (by simpa [PyData.plain] using hz.2.1) hb) (Rp.lay _ _ hz.2.2 ha) (by omega) (q s I)
      · cases h1
    · split at h1
      · rename_i hz
        cases h1
        obtain ⟨as, r1⟩ := rd_reads I hz.2.2 ha rx
        obtain ⟨bs, r2⟩ := rd_reads I (d := .tuple _) (by simpa [PyData.plain] using hz.2.1) hb ry
        exact SeqAt.notIn_tuple_reads r2 r1 (Rp.lay (.tuple _) _ (by simpa [PyData.plain] using hz.2.1) hb) (Rp.lay _ _ hz.2.2 ha) (by omega) (q s I)
      · cases h1
    · split at h1
      · rename_i hz
        cases h1
        cases hb with
        | dct b1 b2 b3 b4 =>
          cases ry
          exact dd_notIn hu I ⟨b3, _, _, b1, b4⟩ hz ha rx fun s' I' => q s' I'
      · cases h1
    · cases h1) fun a b c h => let ⟨k, _, e⟩ := obl_ok h; ⟨k, e⟩
end
end L2.Pv

set_option Elab.async false
set_option linter.all false
set_option maxRecDepth 100000
namespace L2.Pv
open PySem PySem.Spec PyProof.Rows L2

/-- a list or a tuple, whatever it is -/
inductive Sq where
  | l (ds : List PyData)
  | t (ds : List PyData)
def sqOf (S : Sto) : Vl → Option Sq
  | .d (.list ds) => some (.l ds)
  | .d (.tuple ds) => some (.t ds)
  | .k ds => some (.l ds)
  | .o n => (lstOf S n).map .l
  | _ => none
section
variable {X : Cx} {pins : List (Addr × Obj)} {σ : L2.St} {H : Hp} {s : Shared} {ρ : Pl} {S : Sto} {Q : VK} {K : Fg}
theorem sq_l (h : StR K ρ S H) {v : Vl} {x : V} {ds : List PyData} (hv : Vr K H ρ x v) (e : sqOf S v = some (.l ds)) : ∃ a xs, x = .ref a ∧ SqL K.K H a xs ∧ RpL K H ρ.m xs ds := by
  unfold sqOf at e
  split at e
  · cases e
    cases (show Rp _ _ _ _ _ from hv) with
    | lst ta qa => exact ⟨_, _, rfl, ta.sq, qa⟩
  · cases e
  · cases e
    obtain ⟨a, xs, e1, h1, h2⟩ := hv
    exact ⟨a, xs, e1, h1.sq, h2⟩
  · rename_i n
    obtain ⟨ds', h1, h2⟩ := Option.map_eq_some_iff.mp e
    cases h2
    obtain ⟨a, ha, e1⟩ := hv
    obtain ⟨xs, h3, h4⟩ := h.lstAt ha h1
    exact ⟨a, xs, e1, .of h3, h4⟩
  · cases e
theorem sq_t {v : Vl} {x : V} {ds : List PyData} (hv : Vr K H ρ x v) (e : sqOf S v = some (.t ds)) : v = .d (.tuple ds) ∧ ∃ a xs, x = .ref a ∧ SqT K.K H a xs ∧ RpL K H ρ.m xs ds := by
  unfold sqOf at e
  split at e
  · cases e
  · cases e
    cases (show Rp _ _ _ _ _ from hv) with
    | tup ta qa => exact ⟨rfl, _, _, rfl, ta.sq, qa⟩
  · cases e
  · obtain ⟨ds', h1, h2⟩ := Option.map_eq_some_iff.mp e
    cases h2
  · cases e
theorem RpL.atI {m : List Addr} {ds : List PyData} {xs : List V} {i : Int} {d : PyData} (h : RpL K H m xs ds) (e : atI ds i = some d) : ∃ x, L2.atI xs i = some x ∧ Rp K H m x d := by
  unfold L2.atI at e ⊢
  rw [h.length]
  cases hj : ixN ds.length i with
  | none => rw [hj] at e; cases e
  | some j =>
    rw [hj] at e
    obtain ⟨x, h1, h2⟩ := h.get (i := j) (show ds[j]? = some d from e)
    exact ⟨x, h1, h2⟩

/-! ### subscripts -/
def gIx : G2 := fun a b S => match sqOf S a with
  | some (.l ds) => match b with
    | .d (.int i) => lft S (atI ds i)
    | _ => .bad
  | some (.t ds) => match b with
    | .d (.int i) => lft S (atI ds i)
    | _ => .bad
  | none => match dcV S a with
    | some kds => match b with
      | .d k => if kindB kds k = true then lft S (dLook kds k) else .bad
      | _ => .bad
    | none => match a, b with
      | .d (.str z), .d (.int i) => if z.length ≤ SZ then lft S ((atI z.cps.toList i).map fun c => .str ⟨#[c]⟩) else .bad
      | _, _ => .bad
theorem atI_mem {α : Type} {xs : List α} {i : Int} {c : α} (h : atI xs i = some c) : c ∈ xs := by
  unfold atI at h
  cases hj : ixN xs.length i with
  | none => rw [hj] at h; cases h
  | some j => rw [hj] at h; exact List.mem_of_getElem? (show xs[j]? = some c from h)
theorem ixd (hu : X.A.units + 64 < cLine) : IxR X (rD X.F gIx) := by
  intro value slice pins s σ H x y v u Q I rx ry h hs
  obtain ⟨ρ, S, va, vb, r, S', hS, ha, hb, hg, hc⟩ := h
  unfold gIx at hg
  split at hg
  · rename_i ds e
    split at hg
    · rename_i i
      cases (show Rp _ _ _ _ _ from hb)
      obtain ⟨d, h1, rfl, rfl⟩ := lft_ok hg
      obtain ⟨a, xs, rfl, h2, h3⟩ := sq_l hS ha e
      obtain ⟨z, h4, h5⟩ := h3.atI h1
      exact ix_list value slice pins s σ H _ _ v u Q I rx ry ⟨_, _, _, _, rfl, rfl, h2, h4, hc.here hS h5⟩ hs
    · cases hg
  · rename_i ds e
    split at hg
    · rename_i i
      cases (show Rp _ _ _ _ _ from hb)
      obtain ⟨d, h1, rfl, rfl⟩ := lft_ok hg
      obtain ⟨_, a, xs, rfl, h2, h3⟩ := sq_t ha e
      obtain ⟨z, h4, h5⟩ := h3.atI h1
      exact ix_tup value slice pins s σ H _ _ v u Q I rx ry ⟨_, _, _, _, rfl, rfl, h2, h4, hc.here hS h5⟩ hs
    · cases hg
  · split at hg
    · rename_i kds e
      split at hg
      · rename_i k
        split at hg
        · rename_i hk
          obtain ⟨d, h1, rfl, rfl⟩ := lft_ok hg
          obtain ⟨a, rfl, D⟩ := dc_rp hS ha e
          cases rx
          refine tail_any (ops := [.ref a, u]) (D.typeIs I).1 PySem.F.slot_dict_getitem.lookup ?_ hs
          exact dd_getItem hu I D hk hb ry h1 fun w' s' z I' rz hz => ⟨z, H, I', rz, hc.here hS hz⟩
        · cases hg
      · cases hg
    · split at hg
      · rename_i z i e
        split at hg
        · rename_i hz
          obtain ⟨d, h1, rfl, rfl⟩ := lft_ok hg
          obtain ⟨c, h2, rfl⟩ := Option.map_eq_some_iff.mp h1
          cases (show Rp _ _ _ _ _ from hb)
          cases (show Rp _ _ _ _ _ from ha) with
          | str _ ok => exact ix_str value slice pins s σ H _ _ v u Q I rx ry ⟨_, _, _, rfl, rfl, by rw [← SZ_eq]; exact hz, h2, fin_str I hS (strOk_sub ok fun c' hc' => by
              have e2 : c' = c := by simpa using hc'
              subst e2
              exact atI_mem h2) hc⟩ hs
        · cases hg
      · cases hg

/-! ### slices -/
def cutD {α : Type} (xs : List α) (lo hi : Option Int) : List α := (xs.drop (HT.sIx xs.length 0 lo)).take (HT.sIx xs.length xs.length hi - HT.sIx xs.length 0 lo)
theorem RpL.cut {m : List Addr} {ds : List PyData} {xs : List V} (h : RpL K H m xs ds) (lo hi : Option Int) : RpL K H m (cutV xs lo hi) (cutD ds lo hi) := by
  unfold cutV cutD
  rw [h.length]
  exact (h.drop _).take _
def gSl (a : Vl) (lo hi : Option Int) (S : Sto) : R Vl := match sqOf S a with
  | some (.l ds) => .ok (.d (.list (cutD ds lo hi))) S
  | some (.t ds) => .ok (.d (.tuple (cutD ds lo hi))) S
  | none => match a with
    | .d (.str z) => if z.length ≤ SZ then .ok (.d (.str ⟨(cutD z.cps.toList lo hi).toArray⟩)) S else .bad
    | _ => .bad
theorem cutD_all {α : Type} (xs : List α) (lo hi : Option Int) (h : HT.sIx xs.length 0 lo = 0 ∧ HT.sIx xs.length xs.length hi = xs.length) : cutD xs lo hi = xs := by
  unfold cutD
  rw [h.1, h.2, List.drop_zero, Nat.sub_zero, List.take_length]
theorem sld : SlR X (rDS X.F gSl) := by
  intro pins s σ H x v vl vu lo hi sl Q I rx hs pl pu h
  obtain ⟨ρ, S, va, r, S', hS, ha, hg, hc⟩ := h
  unfold gSl at hg
  split at hg
  · rename_i ds e
    cases hg
    obtain ⟨a, xs, rfl, h2, h3⟩ := sq_l hS ha e
    exact sl_list pins s σ H _ v vl vu lo hi sl Q I rx hs pl pu ⟨_, _, rfl, h2, fin_lst hS (h3.cut lo hi) hc⟩
  · rename_i ds e
    cases hg
    obtain ⟨_, a, xs, rfl, h2, h3⟩ := sq_t ha e
    refine sl_tupF pins s σ H _ v vl vu lo hi sl Q I rx hs pl pu ⟨_, _, rfl, h2, fun hz => ?_, fun _ => fin_tup hS (h3.cut lo hi) hc⟩
    rw [h3.length] at hz
    rw [cutD_all ds lo hi hz] at hc
    rename_i e1
    subst e1
    exact hc.here hS ha
  · split at hg
    · rename_i z e
      split at hg
      · rename_i hz
        cases hg
        cases (show Rp _ _ _ _ _ from ha) with
        | str _ ok => exact sl_str pins s σ H _ v vl vu lo hi sl Q I rx hs pl pu ⟨_, rfl, by rw [← SZ_eq]; exact hz, fin_str I hS (strOk_sub ok fun c hc' => by
              have h1 : c ∈ cutD z.cps.toList lo hi := by
                have h0 : c ∈ ((cutD z.cps.toList lo hi).toArray).toList := hc'
                rwa [List.toList_toArray] at h0
              exact List.mem_of_mem_drop (List.mem_of_mem_take h1)) hc⟩
      · cases hg
    · cases hg

/-! ### built-in functions -/
def dInt : PyData → Option PyData
  | .int i => some (.int i)
  | .bool b => some (.int (if b then 1 else 0))
  | _ => none
def arg1 (g : G1) : GL := fun vs S => match vs with
  | [a] => g a S
  | _ => .bad
def arg2 (g : G2) : GL := fun vs S => match vs with
  | [a, b] => g a b S
  | _ => .bad
theorem VrL.one {vs : List Vl} {xs : List V} {v : Vl} (h : VrL K H ρ xs vs) (e : vs = [v]) : ∃ x, xs = [x] ∧ Vr K H ρ x v := by
  subst e
  cases h with
  | cons a b =>
    cases b
    exact ⟨_, rfl, a⟩
theorem VrL.two {vs : List Vl} {xs : List V} {v w : Vl} (h : VrL K H ρ xs vs) (e : vs = [v, w]) : ∃ x y, xs = [x, y] ∧ Vr K H ρ x v ∧ Vr K H ρ y w := by
  subst e
  cases h with
  | cons a b =>
    cases b with
    | cons c d =>
      cases d
      exact ⟨_, _, rfl, a, c⟩
theorem rDL1 {g : G1} {xs : List V} (h : rDL K (arg1 g) xs H Q) : ∃ x ρ S va r S', xs = [x] ∧ StR K ρ S H ∧ Vr K H ρ x va ∧ g va S = .ok r S' ∧ Cont K ρ H S' r Q := by
  obtain ⟨ρ, S, vs, r, S', hS, hv, hg, hc⟩ := h
  unfold arg1 at hg
  split at hg
  · obtain ⟨x, rfl, hx⟩ := hv.one rfl
    exact ⟨x, ρ, S, _, r, S', rfl, hS, hx, hg, hc⟩
  · cases hg
theorem rDL2 {g : G2} {xs : List V} (h : rDL K (arg2 g) xs H Q) : ∃ x y ρ S va vb r S', xs = [x, y] ∧ StR K ρ S H ∧ Vr K H ρ x va ∧ Vr K H ρ y vb ∧ g va vb S = .ok r S' ∧ Cont K ρ H S' r Q := by
  obtain ⟨ρ, S, vs, r, S', hS, hv, hg, hc⟩ := h
  unfold arg2 at hg
  split at hg
  · obtain ⟨x, y, rfl, hx, hy⟩ := hv.two rfl
    exact ⟨x, y, ρ, S, _, _, r, S', rfl, hS, hx, hy, hg, hc⟩
  · cases hg
def gLen : G1 := fun a S => match sqOf S a with
  | some (.l ds) => .ok (.d (.int ds.length)) S
  | some (.t ds) => .ok (.d (.int ds.length)) S
  | none => match dcV S a with
    | some kds => if kds.length ≤ SZ then .ok (.d (.int kds.length)) S else .bad
    | none => match a with
      | .d (.str z) => if z.length ≤ SZ then .ok (.d (.int z.length)) S else .bad
      | _ => .bad
theorem cd_len : CallR X (.builtin "len") (rDL X.F (arg1 gLen)) := by
  intro pins s σ H xs us Q I rx h
  obtain ⟨x, ρ, S, va, r, S', rfl, hS, ha, hg, hc⟩ := rDL1 h
  unfold gLen at hg
  split at hg
  · rename_i ds e
    cases hg
    obtain ⟨a, xs, rfl, h2, h3⟩ := sq_l hS ha e
    refine call_len_seq pins s σ H _ us Q I rx ⟨_, _, rfl, .inl h2, ?_⟩
    rw [h3.length]
    exact hc.here hS (show Rp _ _ _ _ _ from .int _)
  · rename_i ds e
    cases hg
    obtain ⟨_, a, xs, rfl, h2, h3⟩ := sq_t ha e
    refine call_len_seq pins s σ H _ us Q I rx ⟨_, _, rfl, .inr h2, ?_⟩
    rw [h3.length]
    exact hc.here hS (show Rp _ _ _ _ _ from .int _)
  · split at hg
    · rename_i kds e
      split at hg
      · rename_i hz
        cases hg
        obtain ⟨a, rfl, D⟩ := dc_rp hS ha e
        obtain ⟨u, rfl, ru⟩ := vals1 rx
        cases ru
        exact dd_len I D (by rw [← SZ_eq]; exact hz) fun t s' I' => ⟨.int _, H, I', ⟨t, rfl⟩, hc.here hS (show Rp _ _ _ _ _ from .int _)⟩
      · cases hg
    split at hg
    · split at hg
      · rename_i hz
        cases hg
        cases (show Rp _ _ _ _ _ from ha) with
        | str _ ok => exact call_len_str pins s σ H _ us Q I rx ⟨_, rfl, by rw [← SZ_eq]; exact hz, hc.here hS (show Rp _ _ _ _ _ from .int _)⟩
      · cases hg
    · cases hg
theorem cd_int : CallR X (.type "int") (rDL X.F (arg1 (dat1 dInt))) := by
  intro pins s σ H xs us Q I rx h
  obtain ⟨x, ρ, S, va, r, S', rfl, hS, ha, hg, hc⟩ := rDL1 h
  obtain ⟨a, c, rfl, hd, rfl, rfl⟩ := dat1_ok hg
  unfold dInt at hd
  split at hd
  · cases hd
    cases (show Rp _ _ _ _ _ from ha)
    exact call_int1 pins s σ H _ us Q I rx (.inl ⟨_, rfl, hc.here hS (show Rp _ _ _ _ _ from .int _)⟩)
  · cases hd
    cases (show Rp _ _ _ _ _ from ha)
    exact call_int1 pins s σ H _ us Q I rx (.inr ⟨_, rfl, hc.here hS (show Rp _ _ _ _ _ from .int _)⟩)
  · cases hd
def dAbs : PyData → Option PyData
  | .int i => some (.int (if i < 0 then -i else i))
  | _ => none
theorem cd_abs : CallR X (.builtin "abs") (rDL X.F (arg1 (dat1 dAbs))) := by
  intro pins s σ H xs us Q I rx h
  obtain ⟨x, ρ, S, va, r, S', rfl, hS, ha, hg, hc⟩ := rDL1 h
  obtain ⟨a, c, rfl, hd, rfl, rfl⟩ := dat1_ok hg
  unfold dAbs at hd
  split at hd
  · cases hd
    cases (show Rp _ _ _ _ _ from ha)
    exact call_abs pins s σ H _ us Q I rx ⟨_, rfl, hc.here hS (show Rp _ _ _ _ _ from .int _)⟩
  · cases hd
def dMax : PyData → PyData → Option PyData
  | .int i, .int j => some (.int (if j > i then j else i))
  | _, _ => none
def dMin : PyData → PyData → Option PyData
  | .int i, .int j => some (.int (if j < i then j else i))
  | _, _ => none
theorem cd_max (hc : X.calm = true) : CallR X (.builtin "max") (rDL X.F (arg2 (dat2 dMax))) := by
  intro pins s σ H xs us Q I rx h
  obtain ⟨x, y, ρ, S, va, vb, r, S', rfl, hS, ha, hb, hg, hc'⟩ := rDL2 h
  obtain ⟨a, b, c, rfl, rfl, hd, rfl, rfl⟩ := dat2_ok hg
  unfold dMax at hd
  split at hd
  · cases hd
    cases (show Rp _ _ _ _ _ from ha)
    cases (show Rp _ _ _ _ _ from hb)
    exact call_max2 hc pins s σ H _ us Q I rx ⟨_, _, rfl, hc'.here hS (show Rp _ _ _ _ _ from .int _)⟩
  · cases hd
theorem cd_min (hc : X.calm = true) : CallR X (.builtin "min") (rDL X.F (arg2 (dat2 dMin))) := by
  intro pins s σ H xs us Q I rx h
  obtain ⟨x, y, ρ, S, va, vb, r, S', rfl, hS, ha, hb, hg, hc'⟩ := rDL2 h
  obtain ⟨a, b, c, rfl, rfl, hd, rfl, rfl⟩ := dat2_ok hg
  unfold dMin at hd
  split at hd
  · cases hd
    cases (show Rp _ _ _ _ _ from ha)
    cases (show Rp _ _ _ _ _ from hb)
    exact call_min2 hc pins s σ H _ us Q I rx ⟨_, _, rfl, hc'.here hS (show Rp _ _ _ _ _ from .int _)⟩
  · cases hd
theorem strOk_of (x : String) : PySem.PyData.strOk (Str.ofString x) = true := by
  rw [strOk_iff, Str.ofString_eq_toList]
  intro c hc
  simp only [List.mem_map] at hc
  obtain ⟨a, _, rfl⟩ := hc
  have h := a.valid
  rcases h with h | h
  · exact Nat.lt_trans (show a.toNat < 0xd800 from h) (by decide)
  · exact h.2
def dStr : PyData → Option PyData
  | .int i => if i.natAbs.log2 < 1920 then some (.str (toString i)) else none
  | _ => none
theorem cd_str : CallR X (.type "str") (rDL X.F (arg1 (dat1 dStr))) := by
  intro pins s σ H xs us Q I rx h
  obtain ⟨x, ρ, S, va, r, S', rfl, hS, ha, hg, hc⟩ := rDL1 h
  obtain ⟨a, c, rfl, hd, rfl, rfl⟩ := dat1_ok hg
  unfold dStr at hd
  split at hd
  · split at hd
    · rename_i hz
      cases hd
      cases (show Rp _ _ _ _ _ from ha)
      exact call_str_int pins s σ H _ us Q I rx ⟨_, rfl, hz, fin_str I hS (strOk_of _) hc⟩
    · cases hd
  · cases hd
def dOrd : PyData → Option PyData
  | .str x => if x.length = 1 then some (.int (x.cps.getD 0 0 : Nat)) else none
  | _ => none
theorem cd_ord : CallR X (.builtin "ord") (rDL X.F (arg1 (dat1 dOrd))) := by
  intro pins s σ H xs us Q I rx h
  obtain ⟨x, ρ, S, va, r, S', rfl, hS, ha, hg, hc⟩ := rDL1 h
  obtain ⟨a, c, rfl, hd, rfl, rfl⟩ := dat1_ok hg
  unfold dOrd at hd
  split at hd
  · split at hd
    · rename_i hz
      cases hd
      cases (show Rp _ _ _ _ _ from ha)
      exact call_ord pins s σ H _ us Q I rx ⟨_, rfl, hz, hc.here hS (show Rp _ _ _ _ _ from .int _)⟩
    · cases hd
  · cases hd
def gList : G1 := fun a S => match sqOf S a with
  | some (.l ds) => .ok (.d (.list ds)) S
  | some (.t ds) => .ok (.d (.list ds)) S
  | none => match dcV S a with
    | some kds => .ok (.d (.list (kds.map (·.1)))) S
    | none => .bad
theorem cd_list (hcalm : X.calm = true) : CallR X (.type "list") (rDL X.F (arg1 gList)) := by
  intro pins s σ H xs us Q I rx h
  obtain ⟨x, ρ, S, va, r, S', rfl, hS, ha, hg, hc⟩ := rDL1 h
  unfold gList at hg
  split at hg
  · rename_i ds e
    cases hg
    obtain ⟨a, xs, rfl, h2, h3⟩ := sq_l hS ha e
    exact call_list_of pins s σ H _ us Q I rx ⟨_, _, rfl, .inl h2, fin_lst hS h3 hc⟩
  · rename_i ds e
    cases hg
    obtain ⟨_, a, xs, rfl, h2, h3⟩ := sq_t ha e
    exact call_list_of pins s σ H _ us Q I rx ⟨_, _, rfl, .inr h2, fin_lst hS h3 hc⟩
  · split at hg
    · rename_i kds e
      cases hg
      obtain ⟨a, rfl, D⟩ := dc_rp hS ha e
      obtain ⟨u, rfl, ru⟩ := vals1 rx
      cases ru
      exact dd_list hcalm I D fun xs p q hp => fin_lst hS q hc p hp
    · cases hg
def gTuple : G1 := fun a S => match sqOf S a with
  | some (.l ds) => .ok (.d (.tuple ds)) S
  | some (.t ds) => .ok (.d (.tuple ds)) S
  | none => .bad
theorem cd_tuple : CallR X (.type "tuple") (rDL X.F (arg1 gTuple)) := by
  intro pins s σ H xs us Q I rx h
  obtain ⟨x, ρ, S, va, r, S', rfl, hS, ha, hg, hc⟩ := rDL1 h
  unfold gTuple at hg
  split at hg
  · rename_i ds e
    cases hg
    obtain ⟨a, xs, rfl, h2, h3⟩ := sq_l hS ha e
    exact call_tupleF pins s σ H _ us Q I rx ⟨_, _, rfl, .inl ⟨h2, fin_tup hS h3 hc⟩⟩
  · rename_i ds e
    cases hg
    obtain ⟨e1, a, xs, rfl, h2, h3⟩ := sq_t ha e
    subst e1
    exact call_tupleF pins s σ H _ us Q I rx ⟨_, _, rfl, .inr ⟨h2, hc.here hS ha⟩⟩
  · cases hg
/-- bools of a list -/
def boolsOf : List PyData → Option (List Bool)
  | [] => some []
  | .bool b :: r => (boolsOf r).map (b :: ·)
  | _ :: _ => none
theorem bools_rp {m : List Addr} : ∀ {ds : List PyData} {xs : List V} {bs : List Bool}, RpL K H m xs ds → boolsOf ds = some bs → xs = bs.map V.bl
  | [], _, _, h, e => by cases h; cases e; rfl
  | d :: ds, _, bs, h, e => by
    cases h with
    | cons a b =>
      cases d with
      | bool k =>
        obtain ⟨l, h1, h2⟩ := Option.map_eq_some_iff.mp (show (boolsOf ds).map (k :: ·) = some bs from e)
        subst h2
        cases a
        rw [bools_rp b h1]
        rfl
      | _ => cases e
def gAll : G1 := fun a S => match sqOf S a with
  | some (.l ds) => match boolsOf ds with
    | some bs => .ok (.d (.bool (bs.all id))) S
    | none => .bad
  | _ => .bad
def gAny : G1 := fun a S => match sqOf S a with
  | some (.l ds) => match boolsOf ds with
    | some bs => .ok (.d (.bool (bs.any id))) S
    | none => .bad
  | _ => .bad
theorem cd_all (hc : X.calm = true) : CallR X (.builtin "all") (rDL X.F (arg1 gAll)) := by
  intro pins s σ H xs us Q I rx h
  obtain ⟨x, ρ, S, va, r, S', rfl, hS, ha, hg, hc'⟩ := rDL1 h
  unfold gAll at hg
  split at hg
  · rename_i ds e
    split at hg
    · rename_i bs eb
      cases hg
      obtain ⟨a, xs, rfl, h2, h3⟩ := sq_l hS ha e
      have e3 := bools_rp h3 eb
      subst e3
      exact cr_all hc pins s σ H _ us Q I rx ⟨_, _, rfl, h2, hc'.here hS (show Rp _ _ _ _ _ from .bl _)⟩
    · cases hg
  · cases hg
theorem cd_any (hc : X.calm = true) : CallR X (.builtin "any") (rDL X.F (arg1 gAny)) := by
  intro pins s σ H xs us Q I rx h
  obtain ⟨x, ρ, S, va, r, S', rfl, hS, ha, hg, hc'⟩ := rDL1 h
  unfold gAny at hg
  split at hg
  · rename_i ds e
    split at hg
    · rename_i bs eb
      cases hg
      obtain ⟨a, xs, rfl, h2, h3⟩ := sq_l hS ha e
      have e3 := bools_rp h3 eb
      subst e3
      exact cr_any hc pins s σ H _ us Q I rx ⟨_, _, rfl, h2, hc'.here hS (show Rp _ _ _ _ _ from .bl _)⟩
    · cases hg
  · cases hg

/-! ### isinstance(x, T) -/
def tyName : PyData → Option String
  | .none => some "NoneType"
  | .bool _ => some "bool"
  | .int _ => some "int"
  | .str _ => some "str"
  | .list _ => some "list"
  | .tuple _ => some "tuple"
  | .dict _ => none
def isiB (a b : String) : Bool := a == b || (a == "bool" && b == "int")
def isiTs : List String := ["tuple", "str", "int", "bool", "list"]
theorem isi_ok {a b : String} (ha : a = "NoneType" ∨ a = "bool" ∨ a = "int" ∨ a = "str" ∨ a = "list" ∨ a = "tuple") (hb : b ∈ isiTs) : kitB a b = some (isiB a b) := by
  simp only [isiTs, List.mem_cons, List.mem_nil_iff, or_false] at hb
  rcases ha with rfl | rfl | rfl | rfl | rfl | rfl <;> rcases hb with rfl | rfl | rfl | rfl | rfl <;> decide +kernel
def gIsi (T : String) : G1 := fun a S => match a with
  | .d d => match tyName d with
    | some n => .ok (.d (.bool (isiB n T))) S
    | none => .bad
  | .o n => match S[n]? with
    | some (.lst _) => .ok (.d (.bool (isiB "list" T))) S
    | _ => .bad
  | _ => .bad
theorem ty_rp {m : List Addr} {d : PyData} {x : V} {n : String} (h : Rp K H m x d) (e : tyName d = some n) : TyX K.K H x (.type n) ∧ (n = "NoneType" ∨ n = "bool" ∨ n = "int" ∨ n = "str" ∨ n = "list" ∨ n = "tuple") := by
  cases h with
  | non => cases e; exact ⟨.base .non, by simp⟩
  | bl b => cases e; exact ⟨.base (.bl b), by simp⟩
  | int i => cases e; exact ⟨.base (.int i), by simp⟩
  | str x ok => cases e; exact ⟨.base (.str x), by simp⟩
  | lst ta qa => cases e; exact ⟨.base (.lst ta.1), by simp⟩
  | tup ta qa =>
    cases e
    refine ⟨?_, by simp⟩
    rcases ta with ⟨o, _, h, _⟩ | ⟨o, its, n, h, c, _⟩
    · exact .fTuple h
    · exact .kTuple h c
  | dct => cases e
theorem cd_isi {T : String} (hT : T ∈ isiTs) : CallR X (.builtin "isinstance") (fun xs H Q => ∃ x, xs = [x, .ty T] ∧ rD1 X.F (gIsi T) x H Q) := by
  intro pins s σ H xs us Q I rx h
  obtain ⟨x, rfl, ρ, S, va, r, S', hS, ha, hg, hc⟩ := h
  unfold gIsi at hg
  split at hg
  · split at hg
    · rename_i d n e
      cases hg
      obtain ⟨h1, h2⟩ := ty_rp ha e
      exact call_isi pins s σ H _ us Q I rx ⟨x, .ty T, _, _, _, rfl, .ty T, h1, kit_ty (isi_ok h2 hT), hc.here hS (show Rp _ _ _ _ _ from .bl _)⟩
    · cases hg
  · rename_i n
    split at hg
    · rename_i ds e
      cases hg
      obtain ⟨a, h1, rfl⟩ := ha
      obtain ⟨_, xs, h2, h3⟩ := hS.get h1 e
      exact call_isi pins s σ H _ us Q I rx ⟨_, .ty T, _, _, _, rfl, .ty T, .base (.lst h2), kit_ty (isi_ok (by simp) hT), hc.here hS (show Rp _ _ _ _ _ from .bl _)⟩
    · cases hg
  · cases hg

/-! ### truth -/
def truO : PyData → Option Bool
  | .none => some false
  | .bool b => some b
  | .int i => some (i != 0)
  | .str y => if y.length ≤ SZ then some (y.length != 0) else none
  | .list ds => some (!ds.isEmpty)
  | .tuple ds => some (!ds.isEmpty)
  | .dict _ => none
def gTru (v : Vl) (S : Sto) : Option Bool := match v with
  | .d d => truO d
  | .o n => (lstOf S n).map fun ds => !ds.isEmpty
  | .k ds => some (!ds.isEmpty)
theorem RpL.empty {m : List Addr} {ds : List PyData} {xs : List V} (h : RpL K H m xs ds) : xs.isEmpty = ds.isEmpty := by
  cases h <;> rfl
theorem tru_rp (hS : StR K ρ S H) {v : Vl} {x : V} {b : Bool} (h : Vr K H ρ x v) (e : gTru v S = some b) : TruV K.K x H b := by
  cases v with
  | d d =>
    have h : Rp K H ρ.m x d := h
    have e : truO d = some b := e
    cases h with
    | non => cases e; rfl
    | bl b => cases e; rfl
    | int i => cases e; rfl
    | str x ok =>
      have e : (if x.length ≤ SZ then some (x.length != 0) else none) = some b := e
      split at e
      · rename_i hz
        cases e
        refine ⟨by rw [← SZ_eq]; exact hz, ?_⟩
        rw [Bool.eq_iff_iff]
        simp
      · cases e
    | lst ta qa =>
      cases e
      exact .inl ⟨_, ta.sq, by rw [qa.empty]⟩
    | tup ta qa =>
      cases e
      exact .inr (.inl ⟨_, ta.sq, by rw [qa.empty]⟩)
    | dct => cases e
  | o n =>
    obtain ⟨ds, h1, rfl⟩ := Option.map_eq_some_iff.mp (show (lstOf S n).map _ = some b from e)
    obtain ⟨a, ha, rfl⟩ := h
    obtain ⟨xs, h3, h4⟩ := hS.lstAt ha h1
    exact .inl ⟨_, .of h3, by rw [h4.empty]⟩
  | k ds =>
    cases e
    obtain ⟨a, xs, rfl, h1, h2⟩ := h
    exact .inl ⟨_, h1.sq, by rw [h2.empty]⟩
end
end L2.Pv

set_option Elab.async false
set_option linter.all false
set_option maxRecDepth 100000
namespace L2.Pv
open PySem PySem.Spec PyProof.Rows L2

/-! ### what the parts of a text mean -/
abbrev SE := Env → Sto → R Vl
abbrev ST := Env → Sto → R Bool
abbrev SA := Env → Sto → R (List Vl)
def LE (K : Fg) (f : SE) : TE := fun σ H Q => ∃ Γ S ρ v S', StR K ρ S H ∧ EnR K H ρ σ Γ ∧ f Γ S = .ok v S' ∧ Cont K ρ H S' v Q
def LT (K : Fg) (f : ST) : TT := fun σ H Q => ∃ Γ S ρ v S', StR K ρ S H ∧ EnR K H ρ σ Γ ∧ f Γ S = .ok v S' ∧ ContB K ρ H S' v Q
def LA (K : Fg) (f : SA) : TA := fun σ H Q => ∃ Γ S ρ v S', StR K ρ S H ∧ EnR K H ρ σ Γ ∧ f Γ S = .ok v S' ∧ ContL K ρ H S' v Q

def sVar (i : Nat) : SE := fun Γ S => match Γ[i]? with
  | some (some v) => .ok v S
  | _ => .bad
def sCon (d : PyData) : SE := fun _ S => .ok (.d d) S
def sBin (g : G2) (a b : SE) : SE := fun Γ S => (a Γ S).bind fun x S1 => (b Γ S1).bind fun y S2 => g x y S2
def sUn (g : G1) (a : SE) : SE := fun Γ S => (a Γ S).bind fun x S1 => g x S1
def sArgs : List SE → SA
  | [] => fun _ S => .ok [] S
  | f :: fs => fun Γ S => (f Γ S).bind fun v S1 => (sArgs fs Γ S1).bind fun vs S2 => .ok (v :: vs) S2
def sCall (g : GL) (fs : List SE) : SE := fun Γ S => (sArgs fs Γ S).bind g
def datas : List Vl → Option (List PyData)
  | [] => some []
  | .d d :: r => (datas r).map (d :: ·)
  | _ :: _ => none
def gTup : GL := fun vs S => match datas vs with
  | some ds => if ds.length ≤ SZ then .ok (.d (.tuple ds)) S else .bad
  | none => .bad
def gLst : GL := fun vs S => match datas vs with
  | some ds => if ds.length ≤ SZ then .ok (.d (.list ds)) S else .bad
  | none => .bad
/-- a list that will change -/
def gNew : GL := fun vs S => match datas vs with
  | some ds => if ds.length ≤ SZ then .ok (.o S.length) (S ++ [.lst ds]) else .bad
  | none => .bad
def boolOf : Vl → Option Bool
  | .d (.bool b) => some b
  | _ => none
def sTst (a : SE) : ST := fun Γ S => (a Γ S).bind fun v S1 => match boolOf v with
  | some b => .ok b S1
  | none => .bad
def sTru (a : SE) : ST := fun Γ S => (a Γ S).bind fun v S1 => match gTru v S1 with
  | some b => .ok b S1
  | none => .bad
def sNot (a : ST) : ST := fun Γ S => (a Γ S).bind fun b S1 => .ok (!b) S1
def sAnd (a b : ST) : ST := fun Γ S => (a Γ S).bind fun x S1 => if x = true then b Γ S1 else .ok false S1
def sOr (a b : ST) : ST := fun Γ S => (a Γ S).bind fun x S1 => if x = true then .ok true S1 else b Γ S1
def sVal (a : ST) : SE := fun Γ S => (a Γ S).bind fun b S1 => .ok (.d (.bool b)) S1
def sIf (c : ST) (a b : SE) : SE := fun Γ S => (c Γ S).bind fun x S1 => if x = true then a Γ S1 else b Γ S1
def intOf : Vl → Option Int
  | .d (.int i) => some i
  | _ => none
def sPart : Option SE → Env → Sto → R (Option Int)
  | none => fun _ S => .ok none S
  | some f => fun Γ S => (f Γ S).bind fun v S1 => match intOf v with
    | some i => .ok (some i) S1
    | none => .bad
def sSl (a : SE) (lo hi : Option SE) : SE := fun Γ S => (a Γ S).bind fun x S1 => (sPart lo Γ S1).bind fun l S2 => (sPart hi Γ S2).bind fun h S3 => gSl x l h S3
def sMet (g : Vl → GL) (a : SE) (fs : List SE) : SE := fun Γ S => (a Γ S).bind fun x S1 => (sArgs fs Γ S1).bind fun vs S2 => g x vs S2

section
variable {X : Cx} {a b c : Expr} {fa fb : SE} {ta tb : ST} {pos : Pos} {σ : L2.St} {H : Hp} {Q : VK}
theorem _root_.L2.PE.weak {e : Expr} {t t' : TE} (h : PE X e t) (w : ∀ σ H Q, t' σ H Q → t σ H Q) : PE X e t' := ⟨fun pins s σ H Q I hq => h.run pins s σ H Q I (w _ _ _ hq)⟩
theorem _root_.L2.PT.weak {e : Expr} {t t' : TT} (h : PT X e t) (w : ∀ σ H Q, t' σ H Q → t σ H Q) : PT X e t' := ⟨fun pins s σ H Q I hq => h.run pins s σ H Q I (w _ _ _ hq)⟩
theorem _root_.L2.PW.weak {e : Expr} {t t' : TT} (h : PW X e t) (w : ∀ σ H Q, t' σ H Q → t σ H Q) : PW X e t' := ⟨fun u pins s σ H Q I hq => h.run u pins s σ H Q I (w _ _ _ hq)⟩
theorem _root_.L2.PA.weak {e : List Expr} {t t' : TA} (h : PA X e t) (w : ∀ σ H Q, t' σ H Q → t σ H Q) : PA X e t' := ⟨fun p pins s σ H Q I hq => h.run p pins s σ H Q I (w _ _ _ hq)⟩

theorem le_var {i : Nat} {x : Str} (hN : X.N[i]? = some x) (hv : Vis X.env.scope x) (hd : (x == ("__debug__" : Str)) = false) (hcd : (x == ("__classdict__" : Str)) = false) : PE X (.Name x pos) (LE X.F (sVar i)) :=
  (pe_var hN hv hd hcd).weak fun σ H Q ⟨Γ, S, ρ, v, S', hS, hE, hf, hc⟩ => by
    unfold sVar at hf
    split at hf
    · rename_i v e
      cases hf
      obtain ⟨x, h1, h2⟩ := hE.get e
      exact ⟨x, h1, hc.here hS h2⟩
    · cases hf
theorem le_con {e : Expr} {v : V} {d : PyData} (h : PE X e (tC v)) (r : ∀ H m, Rp X.F H m v d) : PE X e (LE X.F (sCon d)) :=
  h.weak fun σ H Q ⟨Γ, S, ρ, v', S', hS, hE, hf, hc⟩ => by
    cases hf
    exact hc.here hS (r H _)
/-- a chain of two -/
theorem le_two {K : Fg} {g : G2} {RR : V → V → Hp → VK → Prop} (hR : ∀ x y H Q, rD K g x y H Q → RR x y H Q) (h : LE K (sBin g fa fb) σ H Q) : LE K fa σ H fun x H1 => LE K fb σ H1 fun y H2 => RR x y H2 Q := by
  obtain ⟨Γ, S, ρ, v, S', hS, hE, hf, hc⟩ := h
  obtain ⟨va, S1, h1, hf⟩ := R.bind_ok hf
  obtain ⟨vb, S2, h2, hf⟩ := R.bind_ok hf
  refine ⟨Γ, S, ρ, va, S1, hS, hE, h1, fun ρ1 H1 x x1 hS1 q1 => ?_⟩
  refine ⟨Γ, S1, ρ1, vb, S2, hS1, hE.ext x1, h2, fun ρ2 H2 y x2 hS2 q2 => ?_⟩
  exact hR _ _ _ _ ⟨ρ2, S2, va, vb, v, S', hS2, q1.ext x2, q2, hf, fun ρ3 H3 z x3 hS3 q3 => hc ρ3 H3 z ((x1.trans x2).trans x3) hS3 q3⟩
theorem le_bin {op : Operator} {g : G2} (ho : OpR X (binaryOp op) (rD X.F g)) (ha : PE X a (LE X.F fa)) (hb : PE X b (LE X.F fb)) : PE X (.BinOp a op b pos) (LE X.F (sBin g fa fb)) :=
  (pe_op ho ha hb).weak fun σ H Q h => le_two (fun _ _ _ _ q => q) h
theorem le_cmp {op : CmpOp} {g : G2} (ho : OpR X (compareOp op) (rD X.F g)) (ha : PE X a (LE X.F fa)) (hb : PE X b (LE X.F fb)) (hm : behindInMarks op b = false) : PE X (.Compare a [op] [b] pos) (LE X.F (sBin g fa fb)) :=
  (pe_cmpR ho ha hb hm).weak fun σ H Q h => le_two (fun _ _ _ _ q => q) h
theorem le_ix (hu : X.A.units + 64 < cLine) (ha : PE X a (LE X.F fa)) (hb : PE X b (LE X.F fb)) (hs : PlainIx b) : PE X (.Subscript a b pos) (LE X.F (sBin gIx fa fb)) :=
  (pe_ix (ixd hu) ha hb hs).weak fun σ H Q h => le_two (fun _ _ _ _ q => q) h
theorem le_one {K : Fg} {g : G1} {RR : V → Hp → VK → Prop} (hR : ∀ x H Q, rD1 K g x H Q → RR x H Q) (h : LE K (sUn g fa) σ H Q) : LE K fa σ H fun x H1 => RR x H1 Q := by
  obtain ⟨Γ, S, ρ, v, S', hS, hE, hf, hc⟩ := h
  obtain ⟨va, S1, h1, hf⟩ := R.bind_ok hf
  exact ⟨Γ, S, ρ, va, S1, hS, hE, h1, fun ρ1 H1 x x1 hS1 q1 => hR _ _ _ ⟨ρ1, S1, va, v, S', hS1, q1, hf, fun ρ3 H3 z x3 hS3 q3 => hc ρ3 H3 z (x1.trans x3) hS3 q3⟩⟩
theorem le_un {op : UnaryOp} {g : G1} (ho : UnR X (unaryOp op) (rD1 X.F g)) (ha : PE X a (LE X.F fa)) : PE X (.UnaryOp op a pos) (LE X.F (sUn g fa)) :=
  (pe_un ho ha).weak fun σ H Q h => le_one (fun _ _ _ q => q) h
def dNeg : PyData → Option PyData
  | .int i => some (.int (-i))
  | _ => none
theorem und_neg : UnR X (unaryOp .USub) (rD1 X.F (dat1 dNeg)) := by
  intro pins s σ H x v Q I rx h
  obtain ⟨ρ, S, va, r, S', hS, ha, hg, hc⟩ := h
  obtain ⟨a, c, rfl, hd, rfl, rfl⟩ := dat1_ok hg
  unfold dNeg at hd
  split at hd
  · cases hd
    cases (show Rp _ _ _ _ _ from ha)
    exact un_neg pins s σ H _ v Q I rx ⟨_, rfl, hc.here hS (show Rp _ _ _ _ _ from .int _)⟩
  · cases hd
/-- is None -/
def gIsN (neg : Bool) : G2 := fun a b S => match b with
  | .d .none => match a with
    | .d .none => .ok (.d (.bool (!neg))) S
    | .d (.bool _) => .ok (.d (.bool neg)) S
    | .d (.int _) => .ok (.d (.bool neg)) S
    | .d (.str _) => .ok (.d (.bool neg)) S
    | .d (.list _) => .ok (.d (.bool neg)) S
    | .d (.tuple _) => .ok (.d (.bool neg)) S
    | .d (.dict _) => .ok (.d (.bool neg)) S
    | .o _ => .ok (.d (.bool neg)) S
    | _ => .bad
  | .d (.bool c) => match a with
    | .d (.bool b) => .ok (.d (.bool ((b == c) != neg))) S
    | _ => .bad
  | _ => .bad
theorem isN_val {K : Fg} {neg : Bool} {ρ : Pl} {S S' : Sto} {va vb r : Vl} {x y : V} (ha : Vr K H ρ x va) (hb : Vr K H ρ y vb) (h : gIsN neg va vb S = .ok r S') : (y = .non ∧ S' = S ∧ r = .d (.bool (decide (x = .non) != neg))) ∨ ∃ b c : Bool, x = .bl b ∧ y = .bl c ∧ S' = S ∧ r = .d (.bool ((b == c) != neg)) := by
  unfold gIsN at h
  split at h
  · cases (show Rp _ _ _ _ _ from hb)
    refine .inl ⟨rfl, ?_⟩
    split at h
    · cases (show Rp _ _ _ _ _ from ha)
      cases h
      cases neg <;> exact ⟨rfl, rfl⟩
    · cases (show Rp _ _ _ _ _ from ha)
      cases h
      cases neg <;> exact ⟨rfl, rfl⟩
    · cases (show Rp _ _ _ _ _ from ha)
      cases h
      cases neg <;> exact ⟨rfl, rfl⟩
    · cases (show Rp _ _ _ _ _ from ha)
      cases h
      cases neg <;> exact ⟨rfl, rfl⟩
    · cases (show Rp _ _ _ _ _ from ha)
      cases h
      cases neg <;> exact ⟨rfl, rfl⟩
    · cases (show Rp _ _ _ _ _ from ha)
      cases h
      cases neg <;> exact ⟨rfl, rfl⟩
    · cases (show Rp _ _ _ _ _ from ha)
      cases h
      cases neg <;> exact ⟨rfl, rfl⟩
    · obtain ⟨a, _, rfl⟩ := ha
      cases h
      cases neg <;> exact ⟨rfl, rfl⟩
    · cases h
  · cases (show Rp _ _ _ _ _ from hb)
    split at h
    · cases (show Rp _ _ _ _ _ from ha)
      cases h
      exact .inr ⟨_, _, rfl, rfl, rfl, rfl⟩
    · cases h
  · cases h
theorem opd_is : OpR X (compareOp .Is) (rD X.F (gIsN false)) := by
  intro pins s σ H x y v u Q I rx ry h
  obtain ⟨ρ, S, va, vb, r, S', hS, ha, hb, hg, hc⟩ := h
  rcases isN_val ha hb hg with ⟨e, rfl, rfl⟩ | ⟨b, c, rfl, rfl, rfl, rfl⟩
  · refine op_isN pins s σ H x y v u Q I rx ry ⟨e, ?_⟩
    have := hc.here hS (show Rp _ _ _ _ _ from .bl _)
    simpa using this
  · refine op_isBl pins s σ H _ _ v u Q I rx ry ⟨b, c, rfl, rfl, ?_⟩
    have := hc.here hS (show Rp _ _ _ _ _ from .bl _)
    cases b <;> cases c <;> exact this
theorem opd_isnot : OpR X (compareOp .IsNot) (rD X.F (gIsN true)) := by
  intro pins s σ H x y v u Q I rx ry h
  obtain ⟨ρ, S, va, vb, r, S', hS, ha, hb, hg, hc⟩ := h
  rcases isN_val ha hb hg with ⟨e, rfl, rfl⟩ | ⟨b, c, rfl, rfl, rfl, rfl⟩
  · refine op_notN pins s σ H x y v u Q I rx ry ⟨e, ?_⟩
    have := hc.here hS (show Rp _ _ _ _ _ from .bl _)
    simpa using this
  · refine op_notBl pins s σ H _ _ v u Q I rx ry ⟨b, c, rfl, rfl, ?_⟩
    have := hc.here hS (show Rp _ _ _ _ _ from .bl _)
    cases b <;> cases c <;> exact this

/-! ### arguments -/
theorem la_nil : PA X [] (LA X.F (sArgs [])) := pa_nil.weak fun σ H Q ⟨Γ, S, ρ, v, S', hS, hE, hf, hc⟩ => by
  cases hf
  exact hc ρ H [] (Ext.refl hS) hS .nil
theorem la_cons {es : List Expr} {fs : List SE} (ha : PE X a (LE X.F fa)) (hr : PA X es (LA X.F (sArgs fs))) (hs : starEach (a :: es) X.env = (false, eval a X.env) :: starEach es X.env) : PA X (a :: es) (LA X.F (sArgs (fa :: fs))) :=
  (pa_cons ha hr hs).weak fun σ H Q ⟨Γ, S, ρ, v, S', hS, hE, hf, hc⟩ => by
    obtain ⟨va, S1, h1, hf⟩ := R.bind_ok hf
    obtain ⟨vs, S2, h2, hf⟩ := R.bind_ok hf
    cases hf
    refine ⟨Γ, S, ρ, va, S1, hS, hE, h1, fun ρ1 H1 x x1 hS1 q1 => ?_⟩
    refine ⟨Γ, S1, ρ1, _, _, hS1, hE.ext x1, h2, fun ρ2 H2 xs x2 hS2 q2 => ?_⟩
    exact hc ρ2 H2 _ (x1.trans x2) hS2 (.cons (q1.ext x2) q2)
theorem le_args {K : Fg} {g : GL} {fs : List SE} {RR : List V → Hp → VK → Prop} (hR : ∀ xs H Q, rDL K g xs H Q → RR xs H Q) (h : LE K (sCall g fs) σ H Q) : LA K (sArgs fs) σ H fun xs H1 => RR xs H1 Q := by
  obtain ⟨Γ, S, ρ, v, S', hS, hE, hf, hc⟩ := h
  obtain ⟨vs, S1, h1, hf⟩ := R.bind_ok hf
  exact ⟨Γ, S, ρ, vs, S1, hS, hE, h1, fun ρ1 H1 xs x1 hS1 q1 => hR _ _ _ ⟨ρ1, S1, vs, v, S', hS1, q1, hf, fun ρ3 H3 z x3 hS3 q3 => hc ρ3 H3 z (x1.trans x3) hS3 q3⟩⟩
theorem datas_rp {K : Fg} {ρ : Pl} : ∀ {vs : List Vl} {xs : List V} {ds : List PyData}, VrL K H ρ xs vs → datas vs = some ds → RpL K H ρ.m xs ds
  | [], _, _, h, e => by
    cases h
    cases e
    exact .nil
  | v :: vs, _, ds, h, e => by
    cases h with
    | cons h1 h2 =>
      cases v with
      | d d =>
        obtain ⟨l, e1, e2⟩ := Option.map_eq_some_iff.mp (show (datas vs).map (d :: ·) = some ds from e)
        subst e2
        exact .cons h1 (datas_rp h2 e1)
      | o n => cases e
      | k l => cases e
theorem le_tup {es : List Expr} {fs : List SE} {x1 : Nat} (h : PA X es (LA X.F (sArgs fs))) : PE X (.Tuple es x1 pos) (LE X.F (sCall gTup fs)) :=
  (pe_tupF h).weak fun σ H Q hq => le_args (RR := fun xs H1 Q => xs.length ≤ sizeLine ∧ ∀ p o, TF o → H1 p = none → Q (.ref p) (upd H1 p (.frz o (.tup xs)))) (fun xs H Q ⟨ρ, S, vs, r, S', hS, hv, hg, hc⟩ => by
    unfold gTup at hg
    split at hg
    · rename_i ds e
      split at hg
      · rename_i hz
        cases hg
        have q := datas_rp hv e
        exact ⟨by rw [q.length, ← SZ_eq]; exact hz, fin_tup hS q hc⟩
      · cases hg
    · cases hg) hq
theorem le_lst {es : List Expr} {fs : List SE} (h : PA X es (LA X.F (sArgs fs))) : PE X (.List es pos) (LE X.F (sCall gLst fs)) :=
  (pe_lst h).weak fun σ H Q hq => le_args (RR := fun xs H1 Q => xs.length ≤ sizeLine ∧ ∀ p, H1 p = none → Q (.ref p) (upd H1 p (.lst xs))) (fun xs H Q ⟨ρ, S, vs, r, S', hS, hv, hg, hc⟩ => by
    unfold gLst at hg
    split at hg
    · rename_i ds e
      split at hg
      · rename_i hz
        cases hg
        have q := datas_rp hv e
        exact ⟨by rw [q.length, ← SZ_eq]; exact hz, fin_lst hS q hc⟩
      · cases hg
    · cases hg) hq
theorem le_new {es : List Expr} {fs : List SE} (h : PA X es (LA X.F (sArgs fs))) : PE X (.List es pos) (LE X.F (sCall gNew fs)) :=
  (pe_lst h).weak fun σ H Q hq => le_args (RR := fun xs H1 Q => xs.length ≤ sizeLine ∧ ∀ p, H1 p = none → Q (.ref p) (upd H1 p (.lst xs))) (fun xs H Q ⟨ρ, S, vs, r, S', hS, hv, hg, hc⟩ => by
    unfold gNew at hg
    split at hg
    · rename_i ds e
      split at hg
      · rename_i hz
        cases hg
        have q := datas_rp hv e
        exact ⟨by rw [q.length, ← SZ_eq]; exact hz, fin_new hS q hc⟩
      · cases hg
    · cases hg) hq
/-- a built-in function -/
theorem le_callB {g : GL} {id : String} {x : Str} {p : Pos} {es : List Expr} {fs : List SE} (hc : CallR X (.builtin id) (rDL X.F g)) (hg : Gl X x) (hm : X.mg x = none) (hv : bootBuiltins x = some (.builtin id)) (ha : PA X (a :: es) (LA X.F (sArgs fs)))
    (hn : x ≠ "__name__") (hdb : (x == ("__debug__" : Str)) = false) (he : starEach (a :: es) X.env = (false, eval a X.env) :: starEach es X.env) (hpl : (backTo pos (starEach es X.env)).any (·.1) = false) : PE X (.Call (.Name x p) (a :: es) [] pos) (LE X.F (sCall g fs)) :=
  (pe_callB hc hg hm hv ha hn hdb he hpl).weak fun σ H Q hq => le_args (fun _ _ _ q => q) hq
theorem le_callTy {g : GL} {T : String} {x : Str} {p : Pos} {es : List Expr} {fs : List SE} (hc : CallR X (.type T) (rDL X.F g)) (hg : Gl X x) (hm : X.mg x = none) (hv : bootBuiltins x = some (.type T)) (ha : PA X (a :: es) (LA X.F (sArgs fs)))
    (hn : x ≠ "__name__") (hdb : (x == ("__debug__" : Str)) = false) (he : starEach (a :: es) X.env = (false, eval a X.env) :: starEach es X.env) (hpl : (backTo pos (starEach es X.env)).any (·.1) = false) : PE X (.Call (.Name x p) (a :: es) [] pos) (LE X.F (sCall g fs)) :=
  (pe_callTy hc hg hm hv ha hn hdb he hpl).weak fun σ H Q hq => le_args (fun _ _ _ q => q) hq
/-- what a def promises -/
def SpD (K : Fg) (n : Nat) (g : GL) : Sp := fun vs H Q _ => vs.length = n ∧ rDL K g vs H Q
theorem len_args {K : Fg} : ∀ {fs : List SE} {Γ : Env} {S S' : Sto} {vs : List Vl}, sArgs fs Γ S = .ok vs S' → vs.length = fs.length
  | [], _, _, _, _, h => by cases h; rfl
  | f :: fs, _, _, _, _, h => by
    obtain ⟨va, S1, h1, h⟩ := R.bind_ok h
    obtain ⟨vs, S2, h2, h⟩ := R.bind_ok h
    cases h
    show _ + 1 = _ + 1
    rw [len_args (K := K) h2]
theorem le_call {k : Nat} {f : Addr} {fd : FuncData} {ps : List Str} {g : GL} {x : Str} {p : Pos} {es : List Expr} {fs : List SE} (F : FnOk X.prog X.w X.K X.mg X.base CX0 k f fd ps (SpD X.F fs.length g)) (hr : Room k X.A) (hg : Gl X x) (hm : X.mg x = some (.ref f)) (hk : PySem.W.keepIn X.K (.ref f) = true) (hb : Binds X.K fd ps [])
    (ha : PA X (a :: es) (LA X.F (sArgs fs))) (hdb : (x == ("__debug__" : Str)) = false) (he : starEach (a :: es) X.env = (false, eval a X.env) :: starEach es X.env) (hpl : (backTo pos (starEach es X.env)).any (·.1) = false) :
    PE X (.Call (.Name x p) (a :: es) [] pos) (LE X.F (sCall g fs)) :=
  (pe_call F hr hg hm hk hb .nil pass0 ha hdb he hpl).weak fun σ H Q hq => by
    obtain ⟨Γ, S, ρ, v, S', hS, hE, hf, hc⟩ := hq
    obtain ⟨vs, S1, h1, hf⟩ := R.bind_ok hf
    refine ⟨Γ, S, ρ, vs, S1, hS, hE, h1, fun ρ1 H1 xs x1 hS1 q1 => ?_⟩
    show SpD X.F fs.length g (xs ++ []) H1 Q _
    rw [List.append_nil]
    exact ⟨by rw [Paired.length q1, len_args (K := X.F) h1], ρ1, S1, vs, v, S', hS1, q1, hf, fun ρ3 H3 z x3 hS3 q3 => hc ρ3 H3 z (x1.trans x3) hS3 q3⟩
theorem le_call0 {k : Nat} {f : Addr} {fd : FuncData} {ps : List Str} {g : GL} {x : Str} {p : Pos} (F : FnOk X.prog X.w X.K X.mg X.base CX0 k f fd ps (SpD X.F 0 g)) (hr : Room k X.A) (hg : Gl X x) (hm : X.mg x = some (.ref f)) (hk : PySem.W.keepIn X.K (.ref f) = true) (hb : Binds X.K fd ps [])
    (hdb : (x == ("__debug__" : Str)) = false) : PE X (.Call (.Name x p) [] [] pos) (LE X.F (sCall g [])) :=
  (pe_call0 F hr hg hm hk hb .nil pass0 hdb).weak fun σ H Q hq => by
    obtain ⟨Γ, S, ρ, v, S', hS, hE, hf, hc⟩ := hq
    exact ⟨rfl, ρ, S, [], v, S', hS, .nil, hf, hc⟩
/-- isinstance(e, T) -/
theorem le_isi {T : String} {x : Str} {p p2 : Pos} (hT : T ∈ isiTs) (hg : Gl X "isinstance") (hm : X.mg "isinstance" = none) (ha : PE X a (LE X.F fa)) (hgT : Gl X x) (hmT : X.mg x = none) (hvT : bootBuiltins x = some (.type T)) (hn : x ≠ "__name__") (hdT : (x == ("__debug__" : Str)) = false)
    (he : starEach [a, .Name x p2] X.env = (false, eval a X.env) :: starEach [.Name x p2] X.env) : PE X (.Call (.Name "isinstance" p) [a, .Name x p2] [] pos) (LE X.F (sUn (gIsi T) fa)) :=
  (pe_callB (cd_isi hT) hg hm (by decide +kernel) (pa_cons ha (pa_cons (pe_bltn (v := .ty T) hgT hmT hvT rfl hn hdT) pa_nil rfl) he) (by decide) (by decide) he (by rfl)).weak fun σ H Q hq =>
    le_one (RR := fun x H1 Q => ∃ y, [x, .ty T] = [y, .ty T] ∧ rD1 X.F (gIsi T) y H1 Q) (fun x H Q q => ⟨x, rfl, q⟩) hq

/-! ### tests -/
theorem lt_val (ha : PE X a (LE X.F fa)) (he : ∀ whole, isTrue a X.env whole = (do let v ← whole; standAt a.pos; holding [v] (truthy v))) : PT X a (LT X.F (sTru fa)) :=
  (pt_truth ha he).weak fun σ H Q ⟨Γ, S, ρ, v, S', hS, hE, hf, hc⟩ => by
    obtain ⟨va, S1, h1, hf⟩ := R.bind_ok hf
    refine ⟨Γ, S, ρ, va, S1, hS, hE, h1, fun ρ1 H1 x x1 hS1 q1 => ?_⟩
    split at hf
    · rename_i b e
      cases hf
      exact ⟨_, tru_rp hS1 q1 e, hc ρ1 H1 x1 hS1⟩
    · cases hf
theorem tst_of {K : Fg} {Q : Bool → Hp → Prop} {fa : SE} (h : LT K (sTst fa) σ H Q) : LE K fa σ H fun x H1 => ∃ k, x = .bl k ∧ Q k H1 := by
  obtain ⟨Γ, S, ρ, v, S', hS, hE, hf, hc⟩ := h
  obtain ⟨va, S1, h1, hf⟩ := R.bind_ok hf
  refine ⟨Γ, S, ρ, va, S1, hS, hE, h1, fun ρ1 H1 x x1 hS1 q1 => ?_⟩
  split at hf
  · rename_i b e
    cases hf
    unfold boolOf at e
    split at e
    · cases e
      cases (show Rp _ _ _ _ _ from q1)
      exact ⟨_, rfl, hc ρ1 H1 x1 hS1⟩
    · cases e
  · cases hf
theorem lt_cmp {op : CmpOp} {g : G2} (ho : OpR X (compareOp op) (rD X.F g)) (ha : PE X a (LE X.F fa)) (hb : PE X b (LE X.F fb)) (hm : behindInMarks op b = false) : PT X (.Compare a [op] [b] pos) (LT X.F (sTst (sBin g fa fb))) :=
  (pt_cmpR ho ha hb hm).weak fun σ H Q h => le_two (fun _ _ _ _ q => q) (tst_of h)
theorem lt_not (ha : PT X a (LT X.F ta)) : PT X (.UnaryOp .Not a pos) (LT X.F (sNot ta)) :=
  (pt_not ha).weak fun σ H Q ⟨Γ, S, ρ, v, S', hS, hE, hf, hc⟩ => by
    obtain ⟨va, S1, h1, hf⟩ := R.bind_ok hf
    cases hf
    exact ⟨Γ, S, ρ, _, _, hS, hE, h1, hc⟩
theorem lw_and1 (ha : PT X a (LT X.F ta)) : PW X (.BoolOp .And [a] pos) (LT X.F ta) := pw_and1 ha
theorem lw_or1 (ha : PT X a (LT X.F ta)) : PW X (.BoolOp .Or [a] pos) (LT X.F ta) := pw_or1 ha
theorem lw_and {rest : List Expr} (ha : PT X a (LT X.F ta)) (hb : PW X (.BoolOp .And (b :: rest) pos) (LT X.F tb)) : PW X (.BoolOp .And (a :: b :: rest) pos) (LT X.F (sAnd ta tb)) :=
  (pw_and ha hb).weak fun σ H Q ⟨Γ, S, ρ, v, S', hS, hE, hf, hc⟩ => by
    obtain ⟨va, S1, h1, hf⟩ := R.bind_ok hf
    refine ⟨Γ, S, ρ, va, S1, hS, hE, h1, fun ρ1 H1 x1 hS1 => ?_⟩
    split at hf
    · rename_i e
      rw [if_pos e]
      exact ⟨Γ, S1, ρ1, v, S', hS1, hE.ext x1, hf, fun ρ2 H2 x2 hS2 => hc ρ2 H2 (x1.trans x2) hS2⟩
    · rename_i e
      rw [if_neg e]
      cases hf
      exact hc ρ1 H1 x1 hS1
theorem lw_or {rest : List Expr} (ha : PT X a (LT X.F ta)) (hb : PW X (.BoolOp .Or (b :: rest) pos) (LT X.F tb)) : PW X (.BoolOp .Or (a :: b :: rest) pos) (LT X.F (sOr ta tb)) :=
  (pw_or ha hb).weak fun σ H Q ⟨Γ, S, ρ, v, S', hS, hE, hf, hc⟩ => by
    obtain ⟨va, S1, h1, hf⟩ := R.bind_ok hf
    refine ⟨Γ, S, ρ, va, S1, hS, hE, h1, fun ρ1 H1 x1 hS1 => ?_⟩
    split at hf
    · rename_i e
      rw [if_pos e]
      cases hf
      exact hc ρ1 H1 x1 hS1
    · rename_i e
      rw [if_neg e]
      exact ⟨Γ, S1, ρ1, v, S', hS1, hE.ext x1, hf, fun ρ2 H2 x2 hS2 => hc ρ2 H2 (x1.trans x2) hS2⟩
/-! ### and, or, not, if as values -/
theorem val_of {K : Fg} {fa : ST} (h : LE K (sVal fa) σ H Q) : LT K fa σ H fun b H1 => Q (.bl b) H1 := by
  obtain ⟨Γ, S, ρ, v, S', hS, hE, hf, hc⟩ := h
  obtain ⟨va, S1, h1, hf⟩ := R.bind_ok hf
  cases hf
  exact ⟨Γ, S, ρ, _, _, hS, hE, h1, fun ρ1 H1 x1 hS1 => hc ρ1 H1 _ x1 hS1 (show Rp _ _ _ _ _ from .bl _)⟩
def sAndV (a b : SE) : SE := fun Γ S => (a Γ S).bind fun x S1 => match boolOf x with
  | some true => b Γ S1
  | some false => .ok (.d (.bool false)) S1
  | none => .bad
def sOrV (a b : SE) : SE := fun Γ S => (a Γ S).bind fun x S1 => match boolOf x with
  | some true => .ok (.d (.bool true)) S1
  | some false => b Γ S1
  | none => .bad
def sNotV (a : SE) : SE := fun Γ S => (a Γ S).bind fun x S1 => match boolOf x with
  | some k => .ok (.d (.bool (!k))) S1
  | none => .bad
theorem boolOf_rp {K : Fg} {ρ : Pl} {x : V} {v : Vl} {k : Bool} (h : Vr K H ρ x v) (e : boolOf v = some k) : x = .bl k := by
  unfold boolOf at e
  split at e
  · cases e
    cases (show Rp _ _ _ _ _ from h)
    rfl
  · cases e
theorem le_oneV {op : BoolOp} (h : PE X a (LE X.F fa)) : PE X (.BoolOp op [a] pos) (LE X.F fa) := pe_one h
theorem le_andV {rest : List Expr} (ha : PE X a (LE X.F fa)) (hb : PE X (.BoolOp .And (b :: rest) pos) (LE X.F fb)) : PE X (.BoolOp .And (a :: b :: rest) pos) (LE X.F (sAndV fa fb)) :=
  (pe_and ha hb).weak fun σ H Q ⟨Γ, S, ρ, v, S', hS, hE, hf, hc⟩ => by
    obtain ⟨va, S1, h1, hf⟩ := R.bind_ok hf
    refine ⟨Γ, S, ρ, va, S1, hS, hE, h1, fun ρ1 H1 x x1 hS1 q1 => ?_⟩
    split at hf
    · rename_i e
      refine ⟨true, boolOf_rp q1 e, ?_⟩
      rw [if_pos rfl]
      exact ⟨Γ, S1, ρ1, v, S', hS1, hE.ext x1, hf, fun ρ2 H2 y x2 hS2 => hc ρ2 H2 y (x1.trans x2) hS2⟩
    · rename_i e
      cases hf
      refine ⟨false, boolOf_rp q1 e, ?_⟩
      rw [if_neg Bool.false_ne_true]
      exact hc ρ1 H1 _ x1 hS1 (show Rp _ _ _ _ _ from .bl _)
    · cases hf
theorem le_orV {rest : List Expr} (ha : PE X a (LE X.F fa)) (hb : PE X (.BoolOp .Or (b :: rest) pos) (LE X.F fb)) : PE X (.BoolOp .Or (a :: b :: rest) pos) (LE X.F (sOrV fa fb)) :=
  (pe_or ha hb).weak fun σ H Q ⟨Γ, S, ρ, v, S', hS, hE, hf, hc⟩ => by
    obtain ⟨va, S1, h1, hf⟩ := R.bind_ok hf
    refine ⟨Γ, S, ρ, va, S1, hS, hE, h1, fun ρ1 H1 x x1 hS1 q1 => ?_⟩
    split at hf
    · rename_i e
      cases hf
      refine ⟨true, boolOf_rp q1 e, ?_⟩
      rw [if_pos rfl]
      exact hc ρ1 H1 _ x1 hS1 (show Rp _ _ _ _ _ from .bl _)
    · rename_i e
      refine ⟨false, boolOf_rp q1 e, ?_⟩
      rw [if_neg Bool.false_ne_true]
      exact ⟨Γ, S1, ρ1, v, S', hS1, hE.ext x1, hf, fun ρ2 H2 y x2 hS2 => hc ρ2 H2 y (x1.trans x2) hS2⟩
    · cases hf
theorem le_notV (ha : PE X a (LE X.F fa)) : PE X (.UnaryOp .Not a pos) (LE X.F (sNotV fa)) :=
  (pe_not ha).weak fun σ H Q ⟨Γ, S, ρ, v, S', hS, hE, hf, hc⟩ => by
    obtain ⟨va, S1, h1, hf⟩ := R.bind_ok hf
    refine ⟨Γ, S, ρ, va, S1, hS, hE, h1, fun ρ1 H1 x x1 hS1 q1 => ?_⟩
    split at hf
    · rename_i k e
      cases hf
      exact ⟨k, boolOf_rp q1 e, hc ρ1 H1 _ x1 hS1 (show Rp _ _ _ _ _ from .bl _)⟩
    · cases hf
theorem le_ifExp (hc : PT X c (LT X.F ta)) (ha : PE X a (LE X.F fa)) (hb : PE X b (LE X.F fb)) : PE X (.IfExp c a b pos) (LE X.F (sIf ta fa fb)) :=
  (pe_ifExp hc ha hb).weak fun σ H Q ⟨Γ, S, ρ, v, S', hS, hE, hf, hc⟩ => by
    obtain ⟨va, S1, h1, hf⟩ := R.bind_ok hf
    refine ⟨Γ, S, ρ, va, S1, hS, hE, h1, fun ρ1 H1 x1 hS1 => ?_⟩
    split at hf
    · rename_i e
      rw [if_pos e]
      exact ⟨Γ, S1, ρ1, v, S', hS1, hE.ext x1, hf, fun ρ2 H2 y x2 hS2 => hc ρ2 H2 y (x1.trans x2) hS2⟩
    · rename_i e
      rw [if_neg e]
      exact ⟨Γ, S1, ρ1, v, S', hS1, hE.ext x1, hf, fun ρ2 H2 y x2 hS2 => hc ρ2 H2 y (x1.trans x2) hS2⟩

/-! ### slices -/
def LO (K : Fg) (f : Option SE) : TO := fun σ H Q => ∃ Γ S ρ v S', StR K ρ S H ∧ EnR K H ρ σ Γ ∧ sPart f Γ S = .ok v S' ∧ ∀ ρ' H', Ext ρ H ρ' H' → StR K ρ' S' H' → Q v H'
theorem lo_none : PO X none (LO X.F none) := ⟨fun pins s σ H Q I ⟨Γ, S, ρ, v, S', hS, hE, hf, hc⟩ => by
  cases hf
  exact po_none.run pins s σ H Q I (hc ρ H (Ext.refl hS) hS)⟩
theorem intOf_rp {K : Fg} {ρ : Pl} {x : V} {v : Vl} {k : Int} (h : Vr K H ρ x v) (e : intOf v = some k) : x = .int k := by
  unfold intOf at e
  split at e
  · cases e
    cases (show Rp _ _ _ _ _ from h)
    rfl
  · cases e
theorem lo_some (ha : PE X a (LE X.F fa)) : PO X (some a) (LO X.F (some fa)) := ⟨fun pins s σ H Q I ⟨Γ, S, ρ, v, S', hS, hE, hf, hc⟩ => by
  obtain ⟨va, S1, h1, hf⟩ := R.bind_ok hf
  refine (po_some ha).run pins s σ H Q I ⟨Γ, S, ρ, va, S1, hS, hE, h1, fun ρ1 H1 x x1 hS1 q1 => ?_⟩
  split at hf
  · rename_i k e
    cases hf
    exact ⟨k, intOf_rp q1 e, hc ρ1 H1 x1 hS1⟩
  · cases hf⟩
theorem le_slice {lo hi : Option Expr} {fl fh : Option SE} {p2 : Pos} (ha : PE X a (LE X.F fa)) (hl : PO X lo (LO X.F fl)) (hh : PO X hi (LO X.F fh)) : PE X (.Subscript a (.Slice lo hi none p2) pos) (LE X.F (sSl fa fl fh)) :=
  (pe_slice sld ha hl hh).weak fun σ H Q ⟨Γ, S, ρ, v, S', hS, hE, hf, hc⟩ => by
    obtain ⟨va, S1, h1, hf⟩ := R.bind_ok hf
    obtain ⟨l, S2, h2, hf⟩ := R.bind_ok hf
    obtain ⟨h, S3, h3, hf⟩ := R.bind_ok hf
    refine ⟨Γ, S, ρ, va, S1, hS, hE, h1, fun ρ1 H1 x x1 hS1 q1 => ?_⟩
    refine ⟨Γ, S1, ρ1, l, S2, hS1, hE.ext x1, h2, fun ρ2 H2 x2 hS2 => ?_⟩
    refine ⟨Γ, S2, ρ2, h, S3, hS2, (hE.ext x1).ext x2, h3, fun ρ3 H3 x3 hS3 => ?_⟩
    exact ⟨ρ3, S3, va, v, S', hS3, (q1.ext x2).ext x3, hf, fun ρ4 H4 z x4 hS4 q4 => hc ρ4 H4 z (((x1.trans x2).trans x3).trans x4) hS4 q4⟩
end
end L2.Pv

set_option Elab.async false
set_option linter.all false
set_option maxRecDepth 100000
/-! enumerate over a tuple -/
namespace L2.Pv
open PySem PySem.Spec PyProof.Rows L2
set_option maxHeartbeats 1000000 in
theorem pv_enum_made {vv : Value} {ob : Obj} {HH : Heap → Prop} (B : Begins vv ob HH) : Meets (Builtin.«enumerate.__new__» ⟨[.type "enumerate", vv], []⟩)
    (fun _ R s => HH s.heap ∧ R (.ok (.ret (.ref (s.heap.push ob).objs.size))) { s with heap := (s.heap.push ob).push { cls := .type "enumerate", data := .fields #[.none, .bool false, .ref s.heap.objs.size, rawInt 0, .none, .none] } }) :=
  .of_wp fun pg wd AA RR st0 hyp => by
    obtain ⟨hp, g, d, tk, os⟩ := st0; obtain ⟨h1, h⟩ := hyp
    have hsub := sub_enumerate
    have q1 : ∀ {A' : Around} {EE : Value → Shared → Prop} {QQ : Value → Shared → Prop}, QQ (.ref hp.objs.size) ⟨hp.push ob, g, d, tk, os⟩ → wpAny (model pg wd) A' (pyIter vv) QQ EE ⟨hp, g, d, tk, os⟩ :=
      fun q => B.iter pg wd _ _ ⟨hp, g, d, tk, os⟩ _ h1 q
    wp_walk using q1
    (refine wpAny_stack_any fun stk => wpAny_pure ?_); split
    · (rename_i cc _ _ _ _ _); cases (cc == Value.type "enumerate") <;> (wp_walk using q1; exact ⟨_, rfl, h⟩)
    · (wp_walk using q1); exact ⟨_, rfl, h⟩
section
variable {prog : Program} {w : World} {A : Around} {E : Value → Shared → Prop} {s : Shared}
theorem pv_enum_tup {t : Addr} {items : Array Value} {Q : Value → Shared → Prop} (ht : s.heap.IsTuple t items)
    (h : ∀ hn, IsEnum hn (s.heap.objs.size + 1) s.heap.objs.size 0 .none → hn.IsTupleIter s.heap.objs.size t 0 → (∀ b o, s.heap.get? b = some o → hn.get? b = some o) → Q (.ref (s.heap.objs.size + 1)) { s with heap := hn }) :
    wpAny (model prog w) A (call (.type "enumerate") [.ref t]) Q E s := by
  have B := begins_tuple t items
  refine callType_new F.called_enumerate (by decide) (F.typeCall_enumerate_1 _) (F.newCall_enumerate_1 _) (fun ob => F.args_object_init_2 ob _) F.entry_enumerate_new (pv_enum_made B) ⟨ht, ?_⟩
  have hz : (s.heap.push { cls := .type "tuple_iterator", data := .fields #[.ref t, .int 0 0] }).objs.size = s.heap.objs.size + 1 := by rw [Heap.size_push]
  show _ ∧ _
  rw [hz]
  have he : IsEnum ((s.heap.push { cls := .type "tuple_iterator", data := .fields #[.ref t, .int 0 0] }).push { cls := .type "enumerate", data := .fields #[.none, .bool false, .ref s.heap.objs.size, rawInt 0, .none, .none] }) (s.heap.objs.size + 1) s.heap.objs.size 0 .none := by
    have z := Heap.get?_push_size (s.heap.push { cls := .type "tuple_iterator", data := .fields #[.ref t, .int 0 0] }) (o := { cls := .type "enumerate", data := .fields #[.none, .bool false, .ref s.heap.objs.size, rawInt 0, .none, .none] }) rfl
    rw [hz] at z; exact z
  exact ⟨⟨_, he, rfl⟩, h _ he ⟨_, Heap.get?_push_of_some _ (Heap.get?_push_size _ rfl), rfl, rfl⟩ fun b o x => Heap.get?_push_of_some _ (Heap.get?_push_of_some _ x)⟩
end
/-- the tuple at a, each item in a new pair -/
def IteT (K : PySem.W.Frag) (a : Addr) : It :=
  ⟨fun i H => ∃ (xs : List V) (x : V), SqT K H a xs ∧ xs[i]? = some x, fun i H v H' => ∃ T o x, TF o ∧ v = .ref T ∧ H T = none ∧ H' = upd H T (.frz o (.tup [.int (i : Nat), x])) ∧ ∀ xs, SqT K H a xs → xs[i]? = some x, fun i H => ∃ xs : List V, SqT K H a xs ∧ xs.length ≤ i⟩
theorem pv_ne_tup {h : Heap} {e it a : Addr} {i : Int} {old : Value} {items : Array Value} (he : IsEnum h e it i old) (ht : h.IsTuple a items) : e ≠ a := fun z => by
  obtain ⟨o, ho, hc, _⟩ := ht
  rw [← z, he] at ho
  cases ho
  exact absurd (show (Value.type "enumerate") = .type "tuple" from hc) (by simp)
theorem pv_ne_it {h : Heap} {it a : Addr} {i : Nat} {items : Array Value} (he : h.IsTupleIter it a i) (ht : h.IsTuple a items) : a ≠ it := fun z => by
  obtain ⟨o, ho, hc, _⟩ := ht
  obtain ⟨o2, ho2, hc2, _⟩ := he
  rw [← z, ho] at ho2
  cases ho2
  rw [hc] at hc2
  exact absurd hc2 (by simp)
theorem turn_enumT {P : Program} {w : World} {K : PySem.W.Frag} {elts : List Expr} {kk : Nat} {tpos : Pos} (a e it : Addr) :
    Turn P w K (.Tuple elts kk tpos) (IteT K a) [e, it] e (fun i h => (∃ old, IsEnum h e it ((i : Nat) : Int) old) ∧ h.IsTupleIter it a i ∧ e ≠ it) where
  mem := List.mem_cons_self
  obj := fun i h st b hb => by
    obtain ⟨⟨old, he⟩, ⟨o, ho, hc, hd⟩, _⟩ := st
    rcases (show b = e ∨ b = it by simpa using hb) with z | z
    · rw [z]; exact ⟨_, he, fun v q => nomatch q⟩
    · rw [z]; exact ⟨o, ho, fun v q => by rw [hd] at q; cases q⟩
  keep := fun i h h' st k => ⟨⟨st.1.choose, k e (by simp) _ st.1.choose_spec⟩, st.2.1.at fun o q => k it (by simp) o q, st.2.2⟩
  item := by
    intro X hP hw hK hc i pins s σ H E I hf st hg
    subst hP hw hK
    obtain ⟨⟨old, he⟩, hit, hne⟩ := st
    obtain ⟨xs, x, hq, hx⟩ := hg
    obtain ⟨its, rv, p0, hz⟩ := I.tuple hq
    obtain ⟨u, hu, ru⟩ := rv.get hx
    have p : s.heap.IsTuple a its.toArray := p0
    have hel : e < s.heap.objs.size := Heap.lt_size he
    have hil : it < s.heap.objs.size := by obtain ⟨_, q, _⟩ := hit; exact Heap.lt_size q
    have hea := pv_ne_tup he p
    have hai := pv_ne_it hit p
    have hu2 : its.toArray[i]? = some u := by simpa using hu
    have hlt : i < its.toArray.size := (Array.getElem?_eq_some_iff.mp hu2).1
    have DD : Draws X.prog X.w X.A.in1 it [it, a] its.toArray.size (fun i v => its.toArray[i]? = some v) (fun i h => h.IsTupleIter it a i ∧ h.IsTuple a its.toArray) := Draws.tuple (A := X.A.in1) (show X.A.in1.handled = none from I.ok.hd hc) it a hai its.toArray
    refine wpAny_pyNext_enum_itemD DD he ⟨hit, p⟩ hlt hne (fun hm => ?_) fun x2 h' tk hP ho hst' hT hsz hk => ?_
    · rcases (show e = it ∨ e = a by simpa using hm) with z | z
      · exact hne z
      · exact hea z
    have hP : its.toArray[i]? = some x2 := hP
    rw [hu2] at hP
    cases hP
    refine ⟨_, rfl, wpAny_letOwnedTupleGo_enum (s := { s with heap := h', toks := tk + 1 }) ho fun h'' he' sb => ?_⟩
    have hT2 : h''.get? s.heap.objs.size = some { cls := .type "tuple", data := .seq #[.int i tk, u] } := (sb.2 _ (Nat.ne_of_gt hel)).trans hT
    have new : ObjOk X.prog X.w (upd H s.heap.objs.size (.frz { cls := .type "tuple", data := .seq #[.int i tk, u] } (.tup [.int (i : Nat), x]))) h'' s.heap.objs.size (.frz { cls := .type "tuple", data := .seq #[.int i tk, u] } (.tup [.int (i : Nat), x])) := ⟨hT2, by show 2 ≤ sizeLine; decide, [.int i tk, u], .cons ⟨_, rfl⟩ (.cons ru .nil), ⟨_, hT2, rfl, _, rfl⟩⟩
    have I1 : Inv X pins σ (upd H s.heap.objs.size (.frz { cls := .type "tuple", data := .seq #[.int i tk, u] } (.tup [.int (i : Nat), x]))) { s with heap := h'', toks := tk + 1 } :=
      I.turnedNew (t' := tk + 1) (ch := [e, it]) (fun b ob hb q => (sb.2 b (fun z => hb (by simp [z]))).trans (hk b ob (fun z => hb (by simp [z])) (fun z => hb (by simp [z])) q)) hf (Nat.le_refl _) new
    refine ⟨.ref s.heap.objs.size, _, I1, rfl, ⟨_, _, x, ⟨rfl, rfl⟩, rfl, I.hok.fresh (Nat.le_refl _), rfl, fun ys hy => by rw [I.tuple_inj hy hq]; exact hx⟩, ⟨⟨u, ?_⟩, hst'.1.at fun o q => (sb.2 it (Ne.symm hne)).trans q, hne⟩, fun b hb => ?_⟩
    · rw [show ((i + 1 : Nat) : Int) = (i : Int) + 1 by omega]; exact he'
    · have hb' : b < s.heap.objs.size := by rcases (show b = e ∨ b = it by simpa using hb) with z | z <;> (rw [z]; assumption)
      rw [upd_ne (Nat.ne_of_lt hb')]; exact (hf b hb).1
  done := by
    intro X hP hw hK hc i pins s σ H E I hf st hg
    subst hP hw hK
    obtain ⟨⟨old, he⟩, hit, hne⟩ := st
    obtain ⟨xs, hq, hx⟩ := hg
    obtain ⟨its, rv, p0, hz⟩ := I.tuple hq
    have p : s.heap.IsTuple a its.toArray := p0
    obtain ⟨f0, f1, f2, f3, f4, f5⟩ := hf it (by simp)
    have hai := pv_ne_it hit p
    have hl := rv.length
    have hin : its.toArray[i]? = none := by simp; omega
    have hT : s.TypeIs (.ref e) "enumerate" := ⟨_, he, rfl⟩
    unfold pyNext
    refine wpAny_bind (wpAny_attempt (wpAny_callSpecial?_slot (name := Str.ofString "__next__") hT F.slot_enumerate_next (wpAny_call_entry F.slot_enumerate_next hT F.entry_enumerate_next ?_ (F.args_enumerate_next_1 _))))
    show wpAny _ _ (field (.ref e) 2 >>= _) _ _ s
    refine wpAny_bind (wpAny_field he rfl (x := .ref it) rfl (wpAny_bind (wpAny_nextOf_tuple_end (I.ok.hd hc) hit p hin fun hn xx he' hx' => ?_)))
    obtain ⟨o, ho, hcc⟩ := hx'
    exact wpAny_bind (wpAny_isInstance (T := "StopIteration") (b := true) ⟨o, ho, hcc⟩ isSubtype_stop (wpAny_pure ⟨rfl, I.turned (t' := s.toks) (fun b o hb q => he' b o hb q) f0 f1 f3 f4 f5⟩))
  self := fun A i s Q E st h => wpAny_pyIter_enum st.1.choose_spec h
/-- enumerate(x), x a list or a tuple -/
def iEnumA (K : PySem.W.Frag) (ta : TA) : TI := fun σ H R => ta σ H fun vs H1 => ∃ a xs, vs = [.ref a] ∧ ((SqL K H1 a xs ∧ R (Ite K a) H1) ∨ (SqT K H1 a xs ∧ R (IteT K a) H1))
theorem pi_enumA {X : Cx} {e : Expr} {ta : TA} {p pos tpos : Pos} {elts : List Expr} {kk : Nat} (hg : Gl X "enumerate") (hm : X.mg "enumerate" = none) (ha : PA X [e] ta) (hs : starEach [e] X.env = [(false, eval e X.env)]) :
    PI X (.Tuple elts kk tpos) (.Call (.Name "enumerate" p) [e] [] pos) (iEnumA X.K ta) := by
  refine ⟨fun pins s σ H R I hyp => Call_ (ld_blt I hg hm boot_enumerate (PyProof.Rows.callWith_type1 (thn (ha.run pos pins s σ H _ I hyp) fun us s1 ⟨vs, H1, I1, r1, q1⟩ => ?_) hs rfl))⟩
  obtain ⟨a, xs, ex, q1⟩ := q1
  subst ex
  have fp : ∀ b, b = s1.heap.objs.size + 1 ∨ b = s1.heap.objs.size → FpOk X pins H1 b := fun b e' => by
    have hle : s1.heap.objs.size ≤ b := by rcases e' with z | z <;> rw [z] <;> first | exact Nat.le_add_right _ _ | exact Nat.le_refl _
    exact I1.fpOk hle (I1.hok.fresh hle)
  cases r1 with
  | cons r rr =>
    cases rr
    cases r
    rcases q1 with ⟨hq, q⟩ | ⟨hq, q⟩
    · obtain ⟨its, rv, p', hz⟩ := I1.list hq
      refine call_enumerate_list p'.isList fun hn he hit hsz hk => wpAny_pyIter_enum he ?_
      exact ⟨s1.heap.objs.size + 1, [s1.heap.objs.size + 1, s1.heap.objs.size], _, _, H1, rfl, I1.kept (t' := s1.toks) hk, turn_enum a (s1.heap.objs.size + 1) s1.heap.objs.size, ⟨⟨.none, he⟩, hit, Nat.succ_ne_self _⟩, fun b hb => fp b (by simpa using hb), q⟩
    · obtain ⟨its, rv, p', hz⟩ := I1.tuple hq
      refine pv_enum_tup (show s1.heap.IsTuple a its.toArray from p') fun hn he hit hk => wpAny_pyIter_enum he ?_
      exact ⟨s1.heap.objs.size + 1, [s1.heap.objs.size + 1, s1.heap.objs.size], _, _, H1, rfl, I1.kept (t' := s1.toks) hk, turn_enumT a (s1.heap.objs.size + 1) s1.heap.objs.size, ⟨⟨.none, he⟩, hit, Nat.succ_ne_self _⟩, fun b hb => fp b (by simpa using hb), q⟩
end L2.Pv

set_option Elab.async false
set_option linter.all false
set_option maxRecDepth 100000
namespace L2.Pv
open PySem PySem.Spec PyProof.Rows L2

/-! ### what is walked -/
inductive Src where
  | its (ds : List PyData)
  | ob (n : Nat)
  | rv (n len : Nat)
abbrev SI := Env → Sto → R Src
/-- an iterator yields the items, whatever grows meanwhile -/
def ItR (K : Fg) (J : It) (m : List Addr) (H : Hp) (items : List PyData) : Prop :=
  ∀ m1 H1, Cov m H m1 H1 → (∀ a ∈ m1, H1 a ≠ none) → (∀ i d, items[i]? = some d → J.go i H1 ∧ ∀ x H2, J.yld i H1 x H2 → (H2 = H1 ∨ ∃ T o, H1 T = none ∧ H2 = upd H1 T o) ∧ Rp K H2 m1 x d) ∧ ∀ i, items.length ≤ i → J.stop i H1
/-- the list object of the store, as it stands at each turn -/
def SrcR (K : Fg) (J : It) (ρ : Pl) (H : Hp) : Src → Prop
  | .its ds => ItR K J ρ.m H ds
  | .ob n => ∃ a, ρ.ad[n]? = some a ∧ J = Itl K.K a
  | .rv n len => ∃ a, ρ.ad[n]? = some a ∧ J = Itv K.K a len
def LI (K : Fg) (f : SI) : TI := fun σ H Q => ∃ Γ S ρ v S', StR K ρ S H ∧ EnR K H ρ σ Γ ∧ f Γ S = .ok v S' ∧
  ∀ ρ' H' J, Ext ρ H ρ' H' → StR K ρ' S' H' → SrcR K J ρ' H' v → Q J H'
def strIts (z : Str) : List PyData := z.cps.toList.map fun c => .str ⟨#[c]⟩
def srcOf (S : Sto) : Vl → Option Src
  | .d (.list ds) => some (.its ds)
  | .d (.tuple ds) => some (.its ds)
  | .d (.str z) => some (.its (strIts z))
  | .d (.dict kds) => some (.its (kds.map (·.1)))
  | .k ds => some (.its ds)
  | .o n => (lstOf S n).map fun _ => .ob n
  | _ => none
def sIter (a : SE) : SI := fun Γ S => (a Γ S).bind fun v S1 => match srcOf S1 v with
  | some s => .ok s S1
  | none => .bad
def rngIts (lo : Int) (n : Nat) : List PyData := (List.range n).map fun (i : Nat) => .int (lo + (i : Int))
def sRng1 (a : SE) : SI := fun Γ S => (a Γ S).bind fun v S1 => match intOf v with
  | some j => if -(2 ^ 62) ≤ j ∧ j < 2 ^ 62 then .ok (.its (rngIts 0 j.toNat)) S1 else .bad
  | none => .bad
def sRng2 (a b : SE) : SI := fun Γ S => (a Γ S).bind fun v S1 => (b Γ S1).bind fun w S2 => match intOf v with
  | some i => match intOf w with
    | some j => if (-(2 ^ 62) ≤ i ∧ i < 2 ^ 62) ∧ (-(2 ^ 62) ≤ j ∧ j < 2 ^ 62) then .ok (.its (rngIts i (j - i).toNat)) S2 else .bad
    | none => .bad
  | none => .bad
def enumIts (ds : List PyData) : List PyData := ds.zipIdx.map fun p => .tuple [.int (p.2 : Nat), p.1]
def sEnum (a : SE) : SI := fun Γ S => (a Γ S).bind fun v S1 => match v with
  | .d (.tuple ds) => .ok (.its (enumIts ds)) S1
  | _ => .bad
def zipIts (as bs : List PyData) : List PyData := (as.zip bs).map fun p => .tuple [p.1, p.2]
def sZip (a b : SE) : SI := fun Γ S => (a Γ S).bind fun v S1 => (b Γ S1).bind fun w S2 => match v with
  | .d (.list as) => match w with
    | .d (.list bs) => .ok (.its (zipIts as bs)) S2
    | _ => .bad
  | .d (.tuple as) => match w with
    | .d (.tuple bs) => .ok (.its (zipIts as bs)) S2
    | _ => .bad
  | _ => .bad
def sRev (a : SE) : SI := fun Γ S => (a Γ S).bind fun v S1 => match v with
  | .d (.list ds) => .ok (.its ds.reverse) S1
  | .d (.tuple ds) => .ok (.its ds.reverse) S1
  | .o n => match lstOf S1 n with
    | some ds => .ok (.rv n ds.length) S1
    | none => .bad
  | _ => .bad

section
variable {X : Cx} {a b : Expr} {fa fb : SE} {tg : Expr} {pos : Pos} {σ : L2.St} {H : Hp} {K : Fg} {m : List Addr}
theorem itr_l {c : Addr} {xs : List V} {ds : List PyData} (h : LstAt K H m c xs) (r : RpL K H m xs ds) : ItR K (Itl K.K c) m H ds := fun m1 H1 cv _ => by
  have h1 := h.cov cv
  have r1 := RpL.cov cv _ _ r
  refine ⟨fun i d e => ?_, fun i hi => ⟨xs, h1.sq, by rw [r1.length]; exact hi⟩⟩
  obtain ⟨x, e1, e2⟩ := r1.get e
  refine ⟨⟨xs, x, h1.sq, e1⟩, fun y H2 hy => ?_⟩
  obtain ⟨rfl, f⟩ := hy
  have := f xs h1.sq
  rw [e1] at this
  cases this
  exact ⟨.inl rfl, e2⟩
theorem itr_t {c : Addr} {xs : List V} {ds : List PyData} (h : TupAt K H m c xs) (r : RpL K H m xs ds) : ItR K (Itt K.K c) m H ds := fun m1 H1 cv _ => by
  have h1 := h.cov cv
  have r1 := RpL.cov cv _ _ r
  refine ⟨fun i d e => ?_, fun i hi => ⟨xs, h1.sq, by rw [r1.length]; exact hi⟩⟩
  obtain ⟨x, e1, e2⟩ := r1.get e
  refine ⟨⟨xs, x, h1.sq, e1⟩, fun y H2 hy => ?_⟩
  obtain ⟨rfl, f⟩ := hy
  have := f xs h1.sq
  rw [e1] at this
  cases this
  exact ⟨.inl rfl, e2⟩
theorem itr_s {z : Str} (ok : PySem.PyData.strOk z = true) : ItR K (Its z) m H (strIts z) := fun m1 H1 cv _ => by
  refine ⟨fun i d e => ?_, fun i hi => ?_⟩
  · unfold strIts at e
    rw [List.getElem?_map] at e
    obtain ⟨c, e1, e2⟩ := Option.map_eq_some_iff.mp e
    subst e2
    have hi : i < z.cps.size := by
      have := (List.getElem?_eq_some_iff.mp e1).1
      simpa using this
    refine ⟨hi, fun y H2 hy => ?_⟩
    obtain ⟨rfl, c', e3, rfl⟩ := hy
    have e4 : c' = c := by
      rw [Array.getElem?_toList] at e1
      rw [e1] at e3
      exact (Option.some.inj e3).symm
    subst e4
    exact ⟨.inl rfl, .str _ (strOk_sub ok fun k hk => by
      have : k = c' := by simpa using hk
      subst this
      exact List.mem_of_getElem? e1)⟩
  · show z.cps.size ≤ i
    simpa [strIts] using hi
theorem itr_r {lo : Int} {n : Nat} : ItR K (Itr lo n) m H (rngIts lo n) := fun m1 H1 cv _ => by
  refine ⟨fun i d e => ?_, fun i hi => ?_⟩
  · unfold rngIts at e
    rw [List.getElem?_map] at e
    obtain ⟨c, e1, e2⟩ := Option.map_eq_some_iff.mp e
    subst e2
    obtain ⟨h1, h2⟩ := List.getElem?_eq_some_iff.mp e1
    rw [List.getElem_range] at h2
    subst h2
    have h3 : i < n := by simpa using h1
    refine ⟨h3, fun y H2 hy => ?_⟩
    obtain ⟨rfl, rfl⟩ := hy
    exact ⟨.inl rfl, .int _⟩
  · show n ≤ i
    simpa [rngIts] using hi
theorem new_tup {m1 : List Addr} {H1 : Hp} {T : Addr} {o : Obj} {xs : List V} {ds : List PyData} (t : TF o) (ht : ∀ a ∈ m1, H1 a ≠ none) (hT : H1 T = none) (r : RpL K H1 m1 xs ds) : Rp K (upd H1 T (.frz o (.tup xs))) m1 (.ref T) (.tuple ds) :=
  .tup (.inl ⟨o, t, upd_same, fun z => ht T z hT⟩) (RpL.cov ⟨fun b u hb _ => by rw [upd_ne (ne_of_none hb hT)]; exact hb, fun _ _ _ n => n⟩ _ _ r)
theorem itr_et {c : Addr} {xs : List V} {ds : List PyData} (h : TupAt K H m c xs) (r : RpL K H m xs ds) : ItR K (IteT K.K c) m H (enumIts ds) := fun m1 H1 cv ht => by
  have h1 := h.cov cv
  have r1 := RpL.cov cv _ _ r
  refine ⟨fun i d e => ?_, fun i hi => ⟨xs, h1.sq, by rw [r1.length]; simpa [enumIts] using hi⟩⟩
  unfold enumIts at e
  rw [List.getElem?_map, List.getElem?_zipIdx] at e
  obtain ⟨p, e1, e2⟩ := Option.map_eq_some_iff.mp e
  obtain ⟨d0, e3, e4⟩ := Option.map_eq_some_iff.mp e1
  subst e2
  subst e4
  obtain ⟨x, e5, e6⟩ := r1.get e3
  refine ⟨⟨xs, x, h1.sq, e5⟩, fun y H2 hy => ?_⟩
  obtain ⟨T, ob, x', tf, rfl, hT, rfl, f⟩ := hy
  have := f xs h1.sq
  rw [e5] at this
  cases this
  refine ⟨.inr ⟨T, _, hT, rfl⟩, ?_⟩
  have q : RpL K H1 m1 [.int (i : Nat), x] [.int (i : Nat), d0] := .cons (.int _) (.cons e6 .nil)
  have := new_tup tf ht hT q
  simpa using this
theorem zip_get {as bs : List PyData} {i : Nat} {d : PyData} (e : (zipIts as bs)[i]? = some d) : ∃ x y, as[i]? = some x ∧ bs[i]? = some y ∧ d = .tuple [x, y] := by
  unfold zipIts at e
  rw [List.getElem?_map] at e
  obtain ⟨p, e1, e2⟩ := Option.map_eq_some_iff.mp e
  obtain ⟨h1, h2⟩ := List.getElem?_eq_some_iff.mp e1
  rw [List.getElem_zip] at h2
  rw [List.length_zip] at h1
  refine ⟨_, _, List.getElem?_eq_getElem (by omega), List.getElem?_eq_getElem (by omega), ?_⟩
  rw [← e2, ← h2]
theorem itr_v {c : Addr} {xs : List V} {ds : List PyData} (h : LstAt K H m c xs) (r : RpL K H m xs ds) : ItR K (Itv K.K c xs.length) m H ds.reverse := fun m1 H1 cv _ => by
  have h1 := h.cov cv
  have r1 := RpL.cov cv _ _ r
  have hl := r1.length
  refine ⟨fun i d e => ?_, fun i hi => ?_⟩
  · have hi : i < ds.length := by
      have := (List.getElem?_eq_some_iff.mp e).1
      simpa using this
    rw [List.getElem?_reverse hi] at e
    obtain ⟨x, e1, e2⟩ := r1.get e
    rw [← hl] at e1
    refine ⟨⟨by omega, xs, x, h1.sq, e1⟩, fun y H2 hy => ?_⟩
    obtain ⟨rfl, f⟩ := hy
    have := f xs h1.sq
    rw [e1] at this
    cases this
    exact ⟨.inl rfl, e2⟩
  · show xs.length ≤ i
    rw [hl]
    simpa using hi
theorem itr_vt {c : Addr} {xs : List V} {ds : List PyData} (h : TupAt K H m c xs) (r : RpL K H m xs ds) : ItR K (RT.ItvT K.K c xs.length) m H ds.reverse := fun m1 H1 cv _ => by
  have h1 := h.cov cv
  have r1 := RpL.cov cv _ _ r
  have hl := r1.length
  refine ⟨fun i d e => ?_, fun i hi => ?_⟩
  · have hi : i < ds.length := by
      have := (List.getElem?_eq_some_iff.mp e).1
      simpa using this
    rw [List.getElem?_reverse hi] at e
    obtain ⟨x, e1, e2⟩ := r1.get e
    rw [← hl] at e1
    refine ⟨⟨by omega, xs, x, h1.sq, e1⟩, fun y H2 hy => ?_⟩
    obtain ⟨rfl, f⟩ := hy
    have := f xs h1.sq
    rw [e1] at this
    cases this
    exact ⟨.inl rfl, e2⟩
  · show xs.length ≤ i
    rw [hl]
    simpa using hi

theorem li_iter (ha : PE X a (LE X.F fa)) : PI X tg a (LI X.F (sIter fa)) := ⟨fun pins s σ H Q I ⟨Γ, S, ρ, v, S', hS, hE, hf, hc⟩ => by
  obtain ⟨va, S1, h1, hf⟩ := R.bind_ok hf
  split at hf
  · rename_i sr e
    cases hf
    unfold srcOf at e
    split at e
    · rename_i ds
      cases e
      refine (pi_list ha).run pins s σ H Q I ⟨Γ, S, ρ, _, _, hS, hE, h1, fun ρ1 H1 x x1 hS1 q1 => ?_⟩
      cases (show Rp _ _ _ _ _ from q1) with
      | lst ta qa => exact ⟨_, rfl, ⟨_, ta.sq⟩, hc ρ1 H1 _ x1 hS1 (itr_l ta.at qa)⟩
    · rename_i ds
      cases e
      refine (pi_tup ha).run pins s σ H Q I ⟨Γ, S, ρ, _, _, hS, hE, h1, fun ρ1 H1 x x1 hS1 q1 => ?_⟩
      cases (show Rp _ _ _ _ _ from q1) with
      | tup ta qa => exact ⟨_, rfl, ⟨_, ta.sq⟩, hc ρ1 H1 _ x1 hS1 (itr_t ta qa)⟩
    · rename_i z
      cases e
      refine (pi_str ha).run pins s σ H Q I ⟨Γ, S, ρ, _, _, hS, hE, h1, fun ρ1 H1 x x1 hS1 q1 => ?_⟩
      cases (show Rp _ _ _ _ _ from q1) with
      | str _ ok => exact ⟨_, rfl, hc ρ1 H1 _ x1 hS1 (itr_s ok)⟩
    · rename_i kds
      cases e
      refine (pi_dct ha).run pins s σ H Q I ⟨Γ, S, ρ, _, _, hS, hE, h1, fun ρ1 H1 x x1 hS1 q1 => ?_⟩
      cases (show Rp _ _ _ _ _ from q1) with
      | dct d1 d2 d3 d4 => exact ⟨_, _, _, rfl, d1, keys_rel d4, hc ρ1 H1 _ x1 hS1 fun m1 H2 cv _ => itr_d d1 d2 d4 m1 H2 cv⟩
    · rename_i ds
      cases e
      refine (pi_list ha).run pins s σ H Q I ⟨Γ, S, ρ, _, _, hS, hE, h1, fun ρ1 H1 x x1 hS1 q1 => ?_⟩
      obtain ⟨c, xs, rfl, ta, qa⟩ := q1
      exact ⟨_, rfl, ⟨_, ta.sq⟩, hc ρ1 H1 _ x1 hS1 (itr_l ta qa)⟩
    · rename_i n
      obtain ⟨ds, e1, rfl⟩ := Option.map_eq_some_iff.mp e
      refine (pi_list ha).run pins s σ H Q I ⟨Γ, S, ρ, _, _, hS, hE, h1, fun ρ1 H1 x x1 hS1 q1 => ?_⟩
      obtain ⟨c, hc1, rfl⟩ := q1
      obtain ⟨xs, h3, h4⟩ := hS1.lstAt hc1 e1
      exact ⟨_, rfl, ⟨_, .of h3⟩, hc ρ1 H1 _ x1 hS1 ⟨c, hc1, rfl⟩⟩
    · cases e
  · cases hf⟩
theorem li_rng1 {p : Pos} (hg : Gl X "range") (hm : X.mg "range" = none) (ha : PE X a (LE X.F fa)) (hs : starEach [a] X.env = [(false, eval a X.env)]) : PI X tg (.Call (.Name "range" p) [a] [] pos) (LI X.F (sRng1 fa)) := ⟨fun pins s σ H Q I ⟨Γ, S, ρ, v, S', hS, hE, hf, hc⟩ => by
  obtain ⟨va, S1, h1, hf⟩ := R.bind_ok hf
  split at hf
  · rename_i j e
    split at hf
    · rename_i hz
      cases hf
      refine (pi_range1 hg hm (pa_cons ha pa_nil hs) hs).run pins s σ H Q I ⟨Γ, S, ρ, _, _, hS, hE, h1, fun ρ1 H1 x x1 hS1 q1 => ?_⟩
      cases intOf_rp q1 e
      exact ⟨j, rfl, hz.1, hz.2, hc ρ1 H1 _ x1 hS1 itr_r⟩
    · cases hf
  · cases hf⟩
theorem li_rng2 {p : Pos} (hg : Gl X "range") (hm : X.mg "range" = none) (ha : PE X a (LE X.F fa)) (hb : PE X b (LE X.F fb)) (hs : starEach [a, b] X.env = [(false, eval a X.env), (false, eval b X.env)]) (hs2 : starEach [b] X.env = [(false, eval b X.env)]) :
    PI X tg (.Call (.Name "range" p) [a, b] [] pos) (LI X.F (sRng2 fa fb)) := ⟨fun pins s σ H Q I ⟨Γ, S, ρ, v, S', hS, hE, hf, hc⟩ => by
  obtain ⟨va, S1, h1, hf⟩ := R.bind_ok hf
  obtain ⟨vb, S2, h2, hf⟩ := R.bind_ok hf
  split at hf
  · rename_i i e
    split at hf
    · rename_i j e'
      split at hf
      · rename_i hz
        cases hf
        refine (pi_range2 hg hm (pa_cons ha (pa_cons hb pa_nil hs2) (by rw [hs, hs2])) hs hs2).run pins s σ H Q I ⟨Γ, S, ρ, _, _, hS, hE, h1, fun ρ1 H1 x x1 hS1 q1 => ?_⟩
        refine ⟨Γ, S1, ρ1, _, _, hS1, hE.ext x1, h2, fun ρ2 H2 y x2 hS2 q2 => ?_⟩
        cases intOf_rp q1 e
        cases intOf_rp q2 e'
        exact ⟨i, j, rfl, ⟨hz.1.1, hz.1.2, hz.2.1, hz.2.2⟩, hc ρ2 H2 _ (x1.trans x2) hS2 itr_r⟩
      · cases hf
    · cases hf
  · cases hf⟩
theorem li_enum {p tpos : Pos} {elts : List Expr} {kk : Nat} (hg : Gl X "enumerate") (hm : X.mg "enumerate" = none) (ha : PE X a (LE X.F fa)) (hs : starEach [a] X.env = [(false, eval a X.env)]) :
    PI X (.Tuple elts kk tpos) (.Call (.Name "enumerate" p) [a] [] pos) (LI X.F (sEnum fa)) := ⟨fun pins s σ H Q I ⟨Γ, S, ρ, v, S', hS, hE, hf, hc⟩ => by
  obtain ⟨va, S1, h1, hf⟩ := R.bind_ok hf
  split at hf
  · cases hf
    refine (pi_enumA hg hm (pa_cons ha pa_nil hs) hs).run pins s σ H Q I ⟨Γ, S, ρ, _, _, hS, hE, h1, fun ρ1 H1 x x1 hS1 q1 => ?_⟩
    cases (show Rp _ _ _ _ _ from q1) with
    | tup ta qa => exact ⟨_, _, rfl, .inr ⟨ta.sq, hc ρ1 H1 _ x1 hS1 (itr_et ta qa)⟩⟩
  · cases hf⟩
theorem li_rev {p : Pos} (hg : Gl X "reversed") (hm : X.mg "reversed" = none) (ha : PE X a (LE X.F fa)) (hs : starEach [a] X.env = (false, eval a X.env) :: starEach [] X.env) : PI X tg (.Call (.Name "reversed" p) [a] [] pos) (LI X.F (sRev fa)) := ⟨fun pins s σ H Q I ⟨Γ, S, ρ, v, S', hS, hE, hf, hc⟩ => by
  obtain ⟨va, S1, h1, hf⟩ := R.bind_ok hf
  refine (RT.pi_revA hg hm ha hs).run pins s σ H Q I ⟨Γ, S, ρ, va, S1, hS, hE, h1, fun ρ1 H1 x x1 hS1 q1 => ?_⟩
  split at hf
  · cases hf
    cases (show Rp _ _ _ _ _ from q1) with
    | lst ta qa => exact ⟨_, _, rfl, .inl ⟨ta.sq, hc ρ1 H1 _ x1 hS1 (itr_v ta.at qa)⟩⟩
  · cases hf
    cases (show Rp _ _ _ _ _ from q1) with
    | tup ta qa => exact ⟨_, _, rfl, .inr ⟨ta.sq, hc ρ1 H1 _ x1 hS1 (itr_vt ta qa)⟩⟩
  · split at hf
    · rename_i n _ ds e1
      cases hf
      obtain ⟨c, hc1, rfl⟩ := q1
      obtain ⟨xs, h3, h4⟩ := hS1.lstAt hc1 e1
      refine ⟨_, xs, rfl, .inl ⟨.of h3, hc ρ1 H1 _ x1 hS1 ⟨c, hc1, ?_⟩⟩⟩
      rw [h4.length]
    · cases hf
  · cases hf⟩

/-! ### targets that take data -/
abbrev Tg := PyData → Env → Option Env
def tNm (i : Nat) : Tg := fun d Γ => some (Γ.set i (some (.d d)))
def setAll : List Nat → List PyData → Env → Option Env
  | [], [], Γ => some Γ
  | i :: is, d :: ds, Γ => setAll is ds (Γ.set i (some (.d d)))
  | _, _, _ => none
def tTp (is : List Nat) : Tg := fun d Γ => match d with
  | .tuple ds => setAll is ds Γ
  | _ => none
/-- but for the places is the same -/
def WSame (is : List Nat) (σ σ' : L2.St) : Prop := σ'.length = σ.length ∧ ∀ j, j ∉ is → σ'[j]? = σ[j]?
def LG (K : Fg) (is : List Nat) (t : Tg) : TG := fun v σ H Q => ∃ Γ S ρ d Γ', StR K ρ S H ∧ EnR K H ρ σ Γ ∧ Rp K H ρ.m v d ∧ t d Γ = some Γ' ∧ ∀ σ', EnR K H ρ σ' Γ' → WSame is σ σ' → Q σ' H
theorem WSame.set {σ : L2.St} {i : Nat} {x : Option V} : WSame [i] σ (σ.set i x) := ⟨List.length_set, fun j hj => by
  rw [List.getElem?_set_ne]
  exact fun e => hj (by rw [e]; exact List.mem_cons_self)⟩
theorem WSame.trans {σ σ1 σ2 : L2.St} {is js ks : List Nat} (a : WSame is σ σ1) (b : WSame js σ1 σ2) (h1 : ∀ i ∈ is, i ∈ ks) (h2 : ∀ i ∈ js, i ∈ ks) : WSame ks σ σ2 := ⟨b.1.trans a.1, fun j hj => (b.2 j fun z => hj (h2 j z)).trans (a.2 j fun z => hj (h1 j z))⟩
theorem _root_.L2.PG.weak {e : Expr} {t t' : TG} (h : PG X e t) (w : ∀ v σ H Q, t' v σ H Q → t v σ H Q) : PG X e t' := ⟨fun pins s σ H v u Q I r hq => h.run pins s σ H v u Q I r (w _ _ _ _ hq)⟩
theorem lg_name {i : Nat} {x : Str} (h : PG X (.Name x pos) (gName i)) : PG X (.Name x pos) (LG X.F [i] (tNm i)) := h.weak fun v σ H Q ⟨Γ, S, ρ, d, Γ', hS, hE, hr, ht, hq⟩ => by
  cases ht
  exact hq _ (hE.set (v := .d d) hr) .set
inductive NmL (X : Cx) : List Expr → List Nat → Prop
  | nil : NmL X [] []
  | cons {e : Expr} {es : List Expr} {i : Nat} {is : List Nat} : PG X e (gName i) → (assignEach (e :: es) X.env).map (·.2) = assign e X.env :: (assignEach es X.env).map (·.2) → NmL X es is → NmL X (e :: es) (i :: is)
def LGs (K : Fg) (is : List Nat) : TGs := fun vs σ H Q => ∃ Γ S ρ ds Γ', StR K ρ S H ∧ EnR K H ρ σ Γ ∧ RpL K H ρ.m vs ds ∧ setAll is ds Γ = some Γ' ∧ ∀ σ', EnR K H ρ σ' Γ' → WSame is σ σ' → Q σ' H
theorem _root_.L2.PGs.weak {e : List Expr} {t t' : TGs} (h : PGs X e t) (w : ∀ v σ H Q, t' v σ H Q → t v σ H Q) : PGs X e t' := ⟨fun pins s σ H v u Q I r hq => h.run pins s σ H v u Q I r (w _ _ _ _ hq)⟩
theorem lgs_of {es : List Expr} {is : List Nat} (h : NmL X es is) : PGs X es (LGs X.F is) := by
  induction h with
  | nil =>
    refine pgs_nil.weak fun vs σ H Q ⟨Γ, S, ρ, ds, Γ', hS, hE, hr, ht, hq⟩ => ?_
    cases ds with
    | nil =>
      cases hr
      cases ht
      exact ⟨rfl, hq σ hE ⟨rfl, fun _ _ => rfl⟩⟩
    | cons d ds => cases ht
  | cons h1 hs h2 ih =>
    refine (pgs_cons h1 ih hs).weak fun vs σ H Q ⟨Γ, S, ρ, ds, Γ', hS, hE, hr, ht, hq⟩ => ?_
    cases ds with
    | nil => cases ht
    | cons d ds =>
      cases hr with
      | cons r1 r2 => exact ⟨_, _, rfl, Γ.set _ (some (.d d)), S, ρ, ds, Γ', hS, hE.set (v := .d d) r1, r2, ht, fun σ' e w => hq σ' e (WSame.set.trans w (fun i hi => by rw [List.mem_singleton.mp hi]; exact List.mem_cons_self) fun i hi => List.mem_cons_of_mem _ hi)⟩
theorem lg_tup {es : List Expr} {is : List Nat} {k : Nat} (hc : X.calm = true) (h : NmL X es is) (hn : (assignEach es X.env).length = es.length) (hst : (assignEach es X.env).findIdx? (·.1) = none) (hl : is.length = es.length) : PG X (.Tuple es k pos) (LG X.F is (tTp is)) :=
  (pg_tup hc (lgs_of h) hn hst).weak fun v σ H Q ⟨Γ, S, ρ, d, Γ', hS, hE, hr, ht, hq⟩ => by
    unfold tTp at ht
    split at ht
    · rename_i ds
      cases hr with
      | tup ta qa =>
        refine ⟨_, _, rfl, ta.sq, ?_, Γ, S, ρ, ds, Γ', hS, hE, qa, ht, hq⟩
        rw [qa.length]
        have key : ∀ (is : List Nat) (ds : List PyData) (Γ Γ' : Env), setAll is ds Γ = some Γ' → ds.length = is.length := by
          intro is
          induction is with
          | nil =>
            intro ds Γ Γ' h
            cases ds with
            | nil => rfl
            | cons d ds => cases h
          | cons i is ih =>
            intro ds Γ Γ' h
            cases ds with
            | nil => cases h
            | cons d ds => show _ + 1 = _ + 1; rw [ih ds _ _ h]
        rw [key _ _ _ _ ht, hl]
    · cases ht
end
end L2.Pv

set_option Elab.async false
set_option linter.all false
set_option maxRecDepth 100000
namespace L2.Pv
open PySem PySem.Spec PyProof.Rows L2

/-! ### the next item -/
def nxtV (o : Option (List PyData)) (len i : Nat) : Option (Option PyData) := match o with
  | some ds => if i < len then (ds[len - 1 - i]?).map some else some none
  | none => none
def nxt (src : Src) (S : Sto) (i : Nat) : Option (Option PyData) := match src with
  | .its ds => some ds[i]?
  | .ob n => (lstOf S n).map (·[i]?)
  | .rv n len => nxtV (lstOf S n) len i
def bigFuel : Nat := 1000000
def fuelOf : Src → Nat
  | .its ds => ds.length + 1
  | .ob _ => bigFuel
  | .rv _ len => len + 1
section
variable {K : Fg} {ρ ρ1 ρ2 : Pl} {H H1 H2 : Hp} {S S2 : Sto} {J : It} {src : Src}
theorem src_go (h : SrcR K J ρ H src) (x : Ext ρ H ρ2 H2) (hS : StR K ρ2 S2 H2) :
    (∀ i d, nxt src S2 i = some (some d) → J.go i H2 ∧ ∀ x H3, J.yld i H2 x H3 → (H3 = H2 ∨ ∃ T o, H2 T = none ∧ H3 = upd H2 T o) ∧ Rp K H3 ρ2.m x d) ∧ ∀ i, nxt src S2 i = some none → J.stop i H2 := by
  cases src with
  | its ds =>
    obtain ⟨h1, h2⟩ := h _ _ x.cov hS.tk
    exact ⟨fun i d e => h1 i d (Option.some.inj e), fun i e => h2 i (List.getElem?_eq_none_iff.mp (Option.some.inj e))⟩
  | ob n =>
    obtain ⟨a, ha, rfl⟩ := h
    have ha2 := x.ad ha
    refine ⟨fun i d e => ?_, fun i e => ?_⟩
    · obtain ⟨ds, h1, h2⟩ := Option.map_eq_some_iff.mp (show (lstOf S2 n).map (·[i]?) = some (some d) from e)
      obtain ⟨xs, h3, h4⟩ := hS.lstAt ha2 h1
      obtain ⟨x, h5, h6⟩ := h4.get h2
      refine ⟨⟨xs, x, .of h3, h5⟩, fun y H3 hy => ?_⟩
      obtain ⟨rfl, f⟩ := hy
      have := f xs (.of h3)
      rw [h5] at this
      cases this
      exact ⟨.inl rfl, h6⟩
    · obtain ⟨ds, h1, h2⟩ := Option.map_eq_some_iff.mp (show (lstOf S2 n).map (·[i]?) = some none from e)
      obtain ⟨xs, h3, h4⟩ := hS.lstAt ha2 h1
      exact ⟨xs, .of h3, by rw [h4.length]; exact List.getElem?_eq_none_iff.mp h2⟩
  | rv n len =>
    obtain ⟨a, ha, rfl⟩ := h
    have ha2 := x.ad ha
    refine ⟨fun i d e => ?_, fun i e => ?_⟩
    · have e : nxtV (lstOf S2 n) len i = some (some d) := e
      unfold nxtV at e
      split at e
      · rename_i ds h1
        split at e
        · rename_i hi
          obtain ⟨d2, h2, e2⟩ := Option.map_eq_some_iff.mp e
          cases e2
          obtain ⟨xs, h3, h4⟩ := hS.lstAt ha2 h1
          obtain ⟨x, h5, h6⟩ := h4.get h2
          refine ⟨⟨hi, xs, x, .of h3, h5⟩, fun y H3 hy => ?_⟩
          obtain ⟨rfl, f⟩ := hy
          have := f xs (.of h3)
          rw [h5] at this
          cases this
          exact ⟨.inl rfl, h6⟩
        · cases e
      · cases e
    · have e : nxtV (lstOf S2 n) len i = some none := e
      unfold nxtV at e
      split at e
      · split at e
        · obtain ⟨d2, h2, e2⟩ := Option.map_eq_some_iff.mp e
          cases e2
        · rename_i hi
          show len ≤ i
          omega
      · cases e
/-- the same or one new object -/
theorem grown (hS : StR K ρ S H) (h : H1 = H ∨ ∃ T o, H T = none ∧ H1 = upd H T o) : StR K ρ S H1 ∧ Ext ρ H ρ H1 := by
  rcases h with rfl | ⟨T, o, hT, rfl⟩
  · exact ⟨hS, Ext.refl hS⟩
  · exact hS.fresh hT
/-- an object apart: it may change, it is not of the store -/
def Pl.apart (ρ : Pl) (D : Addr) : Pl := ⟨ρ.ad, ρ.m ++ [D]⟩
theorem StR.apart (h : StR K ρ S H) {D : Addr} {o : HO} (hD : H D = none) : StR K (ρ.apart D) S (upd H D o) ∧ Ext ρ H (ρ.apart D) (upd H D o) := by
  have hn := h.notin hD
  have hna := h.notad hD
  obtain ⟨g1, g2⟩ := h.fresh (o := o) hD
  have cv : Cov ρ.m H (ρ.apart D).m (upd H D o) := more_cov (ρ := ρ) hD
  refine ⟨⟨h.nd, fun a ha => ?_, g1.tka, pairedMono h.all fun b u hb q => q.cov cv ?_ fun z => List.mem_append_left _ z⟩, ⟨⟨[], by simp [Pl.apart], by simp⟩, fun b u hb _ => by rw [upd_ne (ne_of_none hb hD)]; exact hb, cv.out, fun b hb hbn => ⟨List.mem_append_left _ hb, hbn⟩, g2.trk⟩⟩
  · rcases List.mem_append.mp ha with ha | ha
    · exact g1.tk a ha
    · rw [List.mem_singleton.mp ha, upd_same]
      exact fun z => nomatch z
  · by_cases z : b = D
    · subst z; exact absurd hD (h.tka b hb)
    · rw [upd_ne z]
/-- it is written -/
theorem StR.apartSet (h : StR K ρ S H) {D : Addr} {o : HO} (hm : D ∈ ρ.m) (hn : D ∉ ρ.ad) : StR K ρ S (upd H D o) ∧ Cov ρ.m H ρ.m (upd H D o) := by
  have cv : Cov ρ.m H ρ.m (upd H D o) := ⟨fun a u ea na => by rw [upd_ne (fun z => na (by rw [z]; exact hm))]; exact ea, fun _ _ _ n => n⟩
  have htr : ∀ b, H b ≠ none → upd H D o b ≠ none := fun b hb => by
    by_cases z : b = D
    · subst z; rw [upd_same]; exact fun z => by cases z
    · rw [upd_ne z]; exact hb
  exact ⟨⟨h.nd, fun b hb => htr b (h.tk b hb), fun b hb => htr b (h.tka b hb), pairedMono h.all fun b u hb q => q.cov cv (upd_ne fun z => hn (by rw [← z]; exact hb)) id⟩, cv⟩
/-- it is data from now on -/
theorem StR.apartEnd (h : StR K ρ S H) {D : Addr} (hn : D ∉ ρ.ad) : StR K (ρ.less D) S H :=
  ⟨h.nd, fun b hb => h.tk b (less_mem.mp hb).1, h.tka, pairedMono h.all fun b u hb q => q.cov less_cov rfl fun z => less_mem.mpr ⟨z, fun y => hn (by rw [← y]; exact hb)⟩⟩
end

/-! ### list comprehensions -/
def cloop (tg : Tg) (tst : ST) (elt : SE) (Γ : Env) (src : Src) : Nat → Nat → Sto → R (List PyData)
  | 0, _, _ => .bad
  | f + 1, i, S => match nxt src S i with
    | none => .bad
    | some none => .ok [] S
    | some (some d) => match tg d Γ with
      | none => .bad
      | some Γ2 => (tst Γ2 S).bind fun b S1 => if b = true then (elt Γ2 S1).bind fun v S2 => match v with
          | .d y => (cloop tg tst elt Γ src f (i + 1) S2).bind fun r S3 => .ok (y :: r) S3
          | _ => .bad
        else cloop tg tst elt Γ src f (i + 1) S1
def wipeE (Γ : Env) : List Nat → Env
  | [] => Γ
  | v :: vs => (wipeE Γ vs).set v none
def sComp (vs : List Nat) (it : SI) (tg : Tg) (tst : ST) (elt : SE) : SE := fun Γ S => (it Γ S).bind fun src S1 =>
  if fuelOf src ≤ SZ then (cloop tg tst elt (wipeE Γ vs) src (fuelOf src) 0 S1).bind fun r S2 => .ok (.d (.list r)) S2 else .bad
def sYes : ST := fun _ S => .ok true S
section
variable {X : Cx} {σ : L2.St} {H : Hp} {Q : VK} {K : Fg}
theorem lts_nil : PTs X [] (LT X.F sYes) := ⟨fun pins s σ H Q I ⟨Γ, S, ρ, v, S', hS, hE, hf, hc⟩ => by
  cases hf
  exact pts_nil.run pins s σ H Q I (hc ρ H (Ext.refl hS) hS)⟩
theorem lts_one {c : Expr} {t : ST} (h : PT X c (LT X.F t)) : PTs X [c] (LT X.F t) := pts_one h
theorem wipe_get {σ : L2.St} {j : Nat} : ∀ {vs : List Nat}, (wipe σ vs)[j]? = if j ∈ vs then σ[j]?.map (fun _ => none) else σ[j]?
  | [] => by simp [wipe]
  | v :: vs => by
    unfold wipe
    by_cases h : v = j
    · subst h
      rw [if_pos List.mem_cons_self]
      by_cases hl : v < σ.length
      · rw [List.getElem?_set_self (by rw [wipe_length]; exact hl), List.getElem?_eq_getElem hl]
        rfl
      · rw [List.getElem?_eq_none (by simp [wipe_length]; omega), List.getElem?_eq_none (by omega)]
        rfl
    · rw [List.getElem?_set_ne h, wipe_get (vs := vs)]
      by_cases hm : j ∈ vs
      · rw [if_pos hm, if_pos (List.mem_cons_of_mem _ hm)]
      · rw [if_neg hm, if_neg]
        intro z
        rcases List.mem_cons.mp z with z | z
        · exact h z.symm
        · exact hm z
theorem wipe_same {σ σ' : L2.St} {is vs : List Nat} (w : WSame is (wipe σ vs) σ') (h : ∀ i ∈ is, i ∈ vs) : wipe σ' vs = wipe σ vs := by
  apply List.ext_getElem?
  intro j
  have hlen := w.1
  rw [wipe_length] at hlen
  rw [wipe_get, wipe_get]
  by_cases hm : j ∈ vs
  · rw [if_pos hm, if_pos hm]
    by_cases hl : j < σ.length
    · rw [List.getElem?_eq_getElem hl, List.getElem?_eq_getElem (by omega)]
      rfl
    · rw [List.getElem?_eq_none (by omega), List.getElem?_eq_none (by omega)]
  · rw [if_neg hm, if_neg hm]
    have := w.2 j (fun z => hm (h j z))
    rw [this, wipe_get, if_neg hm]
theorem EnR.wipe {ρ : Pl} {Γ : Env} (h : EnR K H ρ σ Γ) : ∀ vs : List Nat, EnR K H ρ (wipe σ vs) (wipeE Γ vs)
  | [] => h
  | v :: vs => (EnR.wipe h vs).setNone
def sCompN (vs : List Nat) (it : SI) (tg : Tg) (tst : ST) (elt : SE) : SE := fun Γ S => (it Γ S).bind fun src S1 =>
  if fuelOf src ≤ SZ then (cloop tg tst elt (wipeE Γ vs) src (fuelOf src) 0 S1).bind fun r S2 => .ok (.o S2.length) (S2 ++ [.lst r]) else .bad
/-- the made list stands apart at the end -/
theorem le_compA {vs is : List Nat} {it : SI} {tg : Tg} {tst : ST} {elt : SE} (hv : ∀ i ∈ is, i ∈ vs) {Γ : Env} {S S1 S' : Sto} {ρ : Pl} {src : Src} {res : List PyData} (hS : StR K ρ S H) (hE : EnR K H ρ σ Γ) (h1 : it Γ S = .ok src S1) (hz : fuelOf src ≤ SZ)
    (hl : cloop tg tst elt (wipeE Γ vs) src (fuelOf src) 0 S1 = .ok res S')
    (hc : ∀ ρ2 H2 D xs, Ext ρ H ρ2 H2 → H D = none → D ∈ ρ2.m → D ∉ ρ2.ad → StR K ρ2 S' H2 → H2 D = some (.lst xs) → RpL K H2 ρ2.m xs res → Q (.ref D) H2) : tLc (LI K it) (LG K is tg) (LT K tst) (LE K elt) vs σ H Q := by
  refine ⟨Γ, S, ρ, src, S1, hS, hE, h1, fun ρ1 H1 J x1 hS1 hJ D hD => ?_⟩
  have hDn := hS1.notin hD
  have hDρ := hS1.notad hD
  have hE1 := hE.ext x1
  have hDH : H D = none := by
    cases e9 : H D with
    | none => rfl
    | some o => exact absurd hD (x1.trk D (by rw [e9]; exact fun z => nomatch z))
  refine ⟨fun i m H2 => ∃ S2 ρ2 acc xs r, StR K ρ2 S2 H2 ∧ D ∈ ρ2.m ∧ D ∉ ρ2.ad ∧ Ext ρ1 H1 ρ2 H2 ∧ i + m = fuelOf src ∧ cloop tg tst elt (wipeE Γ vs) src m i S2 = .ok r S' ∧ H2 D = some (.lst xs) ∧ RpL K H2 ρ2.m xs acc ∧ acc.length ≤ i ∧ acc ++ r = res, ?_, ?_⟩
  · obtain ⟨g1, g2⟩ := hS1.apart (o := .lst []) hD
    exact ⟨fuelOf src, S1, _, [], [], res, g1, List.mem_append_right _ List.mem_cons_self, hDρ, g2, by omega, hl, upd_same, .nil, Nat.le_refl _, rfl⟩
  · rintro i m H2 ⟨S2, ρ2, acc, xs, r, gS, gDm, gDa, gx, em, gl, gD, gr, gle, ge⟩
    obtain ⟨go, stop⟩ := src_go hJ gx gS
    have hEw : EnR K H2 ρ2 (wipe σ vs) (wipeE Γ vs) := (hE1.wipe vs).ext gx
    cases m with
    | zero => cases gl
    | succ m =>
      unfold cloop at gl
      split at gl
      · cases gl
      · rename_i e
        cases gl
        rw [List.append_nil] at ge
        subst ge
        exact .inl ⟨stop i e, hc ρ2 H2 D xs (x1.trans gx) hDH gDm gDa gS gD gr⟩
      · rename_i d e
        split at gl
        · cases gl
        · rename_i Γ2 ht
          obtain ⟨b, S4, e4, gl⟩ := R.bind_ok gl
          obtain ⟨hgo, hy⟩ := go i d e
          refine .inr ⟨hgo, fun H' => ∃ S2 ρ2 acc xs r, StR K ρ2 S2 H' ∧ D ∈ ρ2.m ∧ D ∉ ρ2.ad ∧ Ext ρ1 H1 ρ2 H' ∧ (i + 1) + m = fuelOf src ∧ cloop tg tst elt (wipeE Γ vs) src m (i + 1) S2 = .ok r S' ∧ H' D = some (.lst xs) ∧ RpL K H' ρ2.m xs acc ∧ acc.length ≤ i + 1 ∧ acc ++ r = res, fun H' hN => ⟨m, Nat.lt_succ_self _, hN⟩, fun x H3 hx => ?_⟩
          obtain ⟨hg, hr⟩ := hy x H3 hx
          obtain ⟨gS3, gx3⟩ := grown gS hg
          refine ⟨wipeE Γ vs, S2, ρ2, d, Γ2, gS3, hEw.ext gx3, hr, ht, fun σ' hE' hw => ⟨wipe_same hw hv, ?_⟩⟩
          refine ⟨Γ2, S2, ρ2, b, S4, gS3, hE', e4, fun ρ4 H4 gx4 gS4 => ?_⟩
          have x4 : Ext ρ2 H2 ρ4 H4 := gx3.trans gx4
          obtain ⟨d4m, d4a⟩ := x4.stay D gDm gDa
          have gD4 := x4.keep D _ gD (.inl gDa)
          cases b with
          | false =>
            dsimp only
            rw [if_neg Bool.false_ne_true]
            rw [if_neg Bool.false_ne_true] at gl
            exact ⟨S4, ρ4, acc, xs, r, gS4, d4m, d4a, gx.trans x4, by omega, gl, gD4, RpL.cov x4.cov _ _ gr, by omega, ge⟩
          | true =>
            dsimp only
            rw [if_pos rfl]
            rw [if_pos rfl] at gl
            obtain ⟨v, S5, e5, gl⟩ := R.bind_ok gl
            refine ⟨Γ2, S4, ρ4, v, S5, gS4, hE'.ext gx4, e5, fun ρ5 H5 y gx5 gS5 hy5 => ?_⟩
            split at gl
            · rename_i yd
              obtain ⟨r', S6, e6, gl⟩ := R.bind_ok gl
              cases gl
              have x5 : Ext ρ2 H2 ρ5 H5 := x4.trans gx5
              obtain ⟨d5m, d5a⟩ := x5.stay D gDm gDa
              have hD5 := x5.keep D _ gD (.inl gDa)
              have gr5 := RpL.cov x5.cov _ _ gr
              refine ⟨xs, hD5, ?_, ?_⟩
              · rw [gr5.length, ← SZ_eq]
                omega
              · obtain ⟨s5, cv5⟩ := gS5.apartSet (o := .lst (xs ++ [y])) d5m d5a
                have x6 := gx.trans x5
                refine ⟨S5, ρ5, acc ++ [yd], xs ++ [y], r', s5, d5m, d5a, ⟨x6.pre, fun a o ea hn => ?_, x6.out, x6.stay, fun a ha => ?_⟩, by omega, e6, upd_same, RpL.cov cv5 _ _ (gr5.snoc hy5), by rw [List.length_append]; show acc.length + 1 ≤ i + 1; omega, by rw [List.append_assoc]; exact ge⟩
                · have hne : a ≠ D := fun z => by rw [z, hD] at ea; cases ea
                  rw [upd_ne hne]
                  exact x6.keep a o ea hn
                · by_cases z : a = D
                  · rw [z, upd_same]; exact fun z => by cases z
                  · rw [upd_ne z]; exact x6.trk a ha
            · cases gl
theorem le_comp {vs is : List Nat} {it : SI} {tg : Tg} {tst : ST} {elt : SE} (hv : ∀ i ∈ is, i ∈ vs) (h : LE K (sComp vs it tg tst elt) σ H Q) : tLc (LI K it) (LG K is tg) (LT K tst) (LE K elt) vs σ H Q := by
  obtain ⟨Γ, S, ρ, v, S', hS, hE, hf, hc⟩ := h
  obtain ⟨src, S1, h1, hf⟩ := R.bind_ok hf
  split at hf
  · rename_i hz
    obtain ⟨res, S3, hl, hf⟩ := R.bind_ok hf
    cases hf
    refine le_compA hv hS hE h1 hz hl fun ρ2 H2 D xs gx hDH gDm gDa gS gD gr => ?_
    have hDm : D ∉ (ρ2.less D).m := fun z => (less_mem.mp z).2 rfl
    exact hc (ρ2.less D) H2 (.ref D) ⟨gx.pre, gx.keep, fun a o e n z => gx.out a o e n (less_mem.mp z).1, fun a ha hn => ⟨less_mem.mpr ⟨(gx.stay a ha hn).1, fun z => hS.tk a ha (by rw [z]; exact hDH)⟩, (gx.stay a ha hn).2⟩, gx.trk⟩ (gS.apartEnd gDa) (show Rp _ _ _ _ _ from .lst ⟨gD, hDm⟩ (RpL.cov less_cov _ _ gr))
  · cases hf
theorem le_compN {vs is : List Nat} {it : SI} {tg : Tg} {tst : ST} {elt : SE} (hv : ∀ i ∈ is, i ∈ vs) (h : LE K (sCompN vs it tg tst elt) σ H Q) : tLc (LI K it) (LG K is tg) (LT K tst) (LE K elt) vs σ H Q := by
  obtain ⟨Γ, S, ρ, v, S', hS, hE, hf, hc⟩ := h
  obtain ⟨src, S1, h1, hf⟩ := R.bind_ok hf
  split at hf
  · rename_i hz
    obtain ⟨res, S3, hl, hf⟩ := R.bind_ok hf
    cases hf
    refine le_compA hv hS hE h1 hz hl fun ρ2 H2 D xs gx hDH gDm gDa gS gD gr => ?_
    refine hc ⟨ρ2.ad ++ [D], ρ2.m⟩ H2 (.ref D) ⟨?_, gx.keep, gx.out, fun a ha hn => ⟨(gx.stay a ha hn).1, fun z => ?_⟩, gx.trk⟩ ⟨?_, gS.tk, fun a ha => ?_, pairedAppend gS.all (.cons ⟨gDm, xs, gD, gr⟩ .nil)⟩ ⟨D, ?_, rfl⟩
    · obtain ⟨new, e, hn⟩ := gx.pre
      refine ⟨new ++ [D], by rw [e, List.append_assoc], fun a ha => ?_⟩
      rcases List.mem_append.mp ha with ha | ha
      · exact hn a ha
      · rw [List.mem_singleton.mp ha]; exact hDH
    · rcases List.mem_append.mp z with z | z
      · exact (gx.stay a ha hn).2 z
      · exact hS.tk a ha (by rw [List.mem_singleton.mp z]; exact hDH)
    · show (ρ2.ad ++ [D]).Nodup
      rw [List.nodup_append]
      refine ⟨gS.nd, List.nodup_cons.mpr ⟨by simp, List.nodup_nil⟩, fun a ha b hb z => ?_⟩
      rw [List.mem_singleton.mp hb] at z
      exact gDa (z ▸ ha)
    · rcases List.mem_append.mp ha with ha | ha
      · exact gS.tka a ha
      · rw [List.mem_singleton.mp ha, gD]; exact fun z => by cases z
    · show (ρ2.ad ++ [D])[S3.length]? = some D
      rw [← gS.len, List.getElem?_append_right (Nat.le_refl _), Nat.sub_self]
      rfl
  · cases hf
end
end L2.Pv

set_option Elab.async false
set_option linter.all false
set_option maxRecDepth 100000
namespace L2.Pv
open PySem PySem.Spec PyProof.Rows L2

/-! ### list comprehensions of two clauses -/
def cloop2 (tg : Tg) (tst : ST) (it1 : SI) (tg1 : Tg) (tst1 : ST) (elt : SE) (vs1 : List Nat) (Γ : Env) (src : Src) : Nat → Nat → Sto → R (List PyData)
  | 0, _, _ => .bad
  | f + 1, i, S => match nxt src S i with
    | none => .bad
    | some none => .ok [] S
    | some (some d) => match tg d Γ with
      | none => .bad
      | some Γ2 => (tst Γ2 S).bind fun b S1 => if b = true then (it1 Γ2 S1).bind fun src1 S2 =>
          (cloop tg1 tst1 elt (wipeE Γ2 vs1) src1 (fuelOf src1) 0 S2).bind fun r1 S3 => (cloop2 tg tst it1 tg1 tst1 elt vs1 Γ src f (i + 1) S3).bind fun r S4 => .ok (r1 ++ r) S4
        else cloop2 tg tst it1 tg1 tst1 elt vs1 Γ src f (i + 1) S1
def sComp2 (vs vs1 : List Nat) (it : SI) (tg : Tg) (tst : ST) (it1 : SI) (tg1 : Tg) (tst1 : ST) (elt : SE) : SE := fun Γ S => (it Γ S).bind fun src S1 =>
  (cloop2 tg tst it1 tg1 tst1 elt vs1 (wipeE Γ vs) src (fuelOf src) 0 S1).bind fun r S2 => if r.length ≤ SZ then .ok (.d (.list r)) S2 else .bad
section
variable {X : Cx} {σ : L2.St} {H : Hp} {Q : VK} {K : Fg}
/-- a later state, but for what may change -/
structure Wx (ρ : Pl) (H : Hp) (ρ' : Pl) (H' : Hp) : Prop where
  cov : Cov ρ.m H ρ'.m H'
  ad : ∀ (n : Nat) (a : Addr), ρ.ad[n]? = some a → ρ'.ad[n]? = some a
theorem Wx.refl {ρ : Pl} {H : Hp} : Wx ρ H ρ H := ⟨⟨fun _ _ h _ => h, fun _ _ _ n => n⟩, fun _ _ h => h⟩
theorem Wx.ext {ρ ρ1 ρ2 : Pl} {H H1 H2 : Hp} (w : Wx ρ H ρ1 H1) (x : Ext ρ1 H1 ρ2 H2) : Wx ρ H ρ2 H2 :=
  ⟨⟨fun a o e n => x.cov.keep a o (w.cov.keep a o e n) (w.cov.out a o e n), fun a o e n => x.cov.out a o (w.cov.keep a o e n) (w.cov.out a o e n)⟩, fun n a h => x.ad (w.ad n a h)⟩
theorem Wx.put {ρ ρ1 : Pl} {H H1 : Hp} {D : Addr} {o : HO} (w : Wx ρ H ρ1 H1) (hm : D ∈ ρ.m) : Wx ρ H ρ1 (upd H1 D o) :=
  ⟨⟨fun a u e n => by rw [upd_ne (fun z => n (by rw [z]; exact hm))]; exact w.cov.keep a u e n, w.cov.out⟩, w.ad⟩
theorem Vr.wx {ρ ρ' : Pl} {H H' : Hp} (x : Wx ρ H ρ' H') {v : Vl} {z : V} (h : Vr K H ρ z v) : Vr K H' ρ' z v := by
  cases v with
  | d d => exact Rp.cov x.cov _ _ h
  | o n =>
    obtain ⟨a, h1, h2⟩ := h
    exact ⟨a, x.ad _ _ h1, h2⟩
  | k ds =>
    obtain ⟨a, xs, h1, h2, h3⟩ := h
    exact ⟨a, xs, h1, h2.cov x.cov, RpL.cov x.cov _ _ h3⟩
theorem EnR.wx {ρ ρ' : Pl} {H H' : Hp} (x : Wx ρ H ρ' H') {Γ : Env} (h : EnR K H ρ σ Γ) : EnR K H' ρ' σ Γ := pairedMono h fun _ _ _ q v e => let ⟨z, h1, h2⟩ := q v e; ⟨z, h1, h2.wx x⟩
theorem src_goW {ρ ρ2 : Pl} {H H2 : Hp} {S2 : Sto} {J : It} {src : Src} (h : SrcR K J ρ H src) (x : Wx ρ H ρ2 H2) (hS : StR K ρ2 S2 H2) :
    (∀ i d, nxt src S2 i = some (some d) → J.go i H2 ∧ ∀ x H3, J.yld i H2 x H3 → (H3 = H2 ∨ ∃ T o, H2 T = none ∧ H3 = upd H2 T o) ∧ Rp K H3 ρ2.m x d) ∧ ∀ i, nxt src S2 i = some none → J.stop i H2 := by
  have h2 : SrcR K J ρ2 H2 src := by
    cases src with
    | its ds =>
      intro m1 H3 cv ht
      exact h m1 H3 ⟨fun a o e n => cv.keep a o (x.cov.keep a o e n) (x.cov.out a o e n), fun a o e n => cv.out a o (x.cov.keep a o e n) (x.cov.out a o e n)⟩ ht
    | ob n =>
      obtain ⟨a, h1, h2⟩ := h
      exact ⟨a, x.ad _ _ h1, h2⟩
    | rv n len =>
      obtain ⟨a, h1, h2⟩ := h
      exact ⟨a, x.ad _ _ h1, h2⟩
  exact src_go h2 (Ext.refl hS) hS
/-- what has been done to the list that is made -/
theorem acc_put {ρ : Pl} {S : Sto} {D : Addr} {acc : List PyData} {xs : List V} {y : V} {yd : PyData} (gS : StR K ρ S H) (dm : D ∈ ρ.m) (da : D ∉ ρ.ad) (gr : RpL K H ρ.m xs acc) (hy : Rp K H ρ.m y yd) :
    StR K ρ S (upd H D (.lst (xs ++ [y]))) ∧ RpL K (upd H D (.lst (xs ++ [y]))) ρ.m (xs ++ [y]) (acc ++ [yd]) := by
  obtain ⟨s5, cv5⟩ := gS.apartSet (o := .lst (xs ++ [y])) dm da
  exact ⟨s5, RpL.cov cv5 _ _ (gr.snoc hy)⟩
theorem ext_put {ρ1 ρ5 : Pl} {H1 H5 : Hp} {D : Addr} {o : HO} (x6 : Ext ρ1 H1 ρ5 H5) (hD : H1 D = none) : Ext ρ1 H1 ρ5 (upd H5 D o) := by
  refine ⟨x6.pre, fun a o ea hn => ?_, x6.out, x6.stay, fun a ha => ?_⟩
  · have hne : a ≠ D := fun z => by rw [z, hD] at ea; cases ea
    rw [upd_ne hne]
    exact x6.keep a o ea hn
  · by_cases z : a = D
    · rw [z, upd_same]; exact fun z => by cases z
    · rw [upd_ne z]; exact x6.trk a ha
theorem le_comp2 {vs vs1 is is1 : List Nat} {it it1 : SI} {tg tg1 : Tg} {tst tst1 : ST} {elt : SE} (hv : ∀ i ∈ is, i ∈ vs) (hv1 : ∀ i ∈ is1, i ∈ vs1) (h : LE K (sComp2 vs vs1 it tg tst it1 tg1 tst1 elt) σ H Q) :
    tLc2 (LI K it) (LG K is tg) (LT K tst) (LI K it1) (LG K is1 tg1) (LT K tst1) (LE K elt) vs vs1 σ H Q := by
  obtain ⟨Γ, S, ρ, v, S', hS, hE, hf, hc⟩ := h
  obtain ⟨src, S1, h1, hf⟩ := R.bind_ok hf
  obtain ⟨res, S3, hl, hf⟩ := R.bind_ok hf
  split at hf
  case isFalse => cases hf
  rename_i hz
  cases hf
  have hc : ∀ ρ2 H2 D xs, Ext ρ H ρ2 H2 → H D = none → D ∈ ρ2.m → D ∉ ρ2.ad → StR K ρ2 S' H2 → H2 D = some (.lst xs) → RpL K H2 ρ2.m xs res → Q (.ref D) H2 := fun ρ2 H2 D xs gx hDH gDm gDa gS gD gr => by
    have hDm : D ∉ (ρ2.less D).m := fun z => (less_mem.mp z).2 rfl
    exact hc (ρ2.less D) H2 (.ref D) ⟨gx.pre, gx.keep, fun a o e n z => gx.out a o e n (less_mem.mp z).1, fun a ha hn => ⟨less_mem.mpr ⟨(gx.stay a ha hn).1, fun z => hS.tk a ha (by rw [z]; exact hDH)⟩, (gx.stay a ha hn).2⟩, gx.trk⟩ (gS.apartEnd gDa) (show Rp _ _ _ _ _ from .lst ⟨gD, hDm⟩ (RpL.cov less_cov _ _ gr))
  refine ⟨Γ, S, ρ, src, S1, hS, hE, h1, fun ρ1 H1 J x1 hS1 hJ D hD => ?_⟩
  have hDn := hS1.notin hD
  have hDρ := hS1.notad hD
  have hE1 := hE.ext x1
  have hDH : H D = none := by
    cases e9 : H D with
    | none => rfl
    | some o => exact absurd hD (x1.trk D (by rw [e9]; exact fun z => nomatch z))
  refine ⟨fun i m H2 => ∃ S2 ρ2 acc xs r, StR K ρ2 S2 H2 ∧ D ∈ ρ2.m ∧ D ∉ ρ2.ad ∧ Ext ρ1 H1 ρ2 H2 ∧ cloop2 tg tst it1 tg1 tst1 elt vs1 (wipeE Γ vs) src m i S2 = .ok r S' ∧ H2 D = some (.lst xs) ∧ RpL K H2 ρ2.m xs acc ∧ acc ++ r = res, ?_, ?_⟩
  · obtain ⟨g1, g2⟩ := hS1.apart (o := .lst []) hD
    exact ⟨fuelOf src, S1, _, [], [], res, g1, List.mem_append_right _ List.mem_cons_self, hDρ, g2, hl, upd_same, .nil, rfl⟩
  · rintro i m H2 ⟨S2, ρ2, acc, xs, r, gS, gDm, gDa, gx, gl, gD, gr, ge⟩
    obtain ⟨go, stop⟩ := src_go hJ gx gS
    have hEw : EnR K H2 ρ2 (wipe σ vs) (wipeE Γ vs) := (hE1.wipe vs).ext gx
    cases m with
    | zero => cases gl
    | succ m =>
      unfold cloop2 at gl
      split at gl
      · cases gl
      · rename_i e
        cases gl
        rw [List.append_nil] at ge
        subst ge
        exact .inl ⟨stop i e, hc ρ2 H2 D xs (x1.trans gx) hDH gDm gDa gS gD gr⟩
      · rename_i d e
        split at gl
        · cases gl
        · rename_i Γ2 ht
          obtain ⟨b, S4, e4, gl⟩ := R.bind_ok gl
          obtain ⟨hgo, hy⟩ := go i d e
          refine .inr ⟨hgo, fun H' => ∃ S2 ρ2 acc xs r, StR K ρ2 S2 H' ∧ D ∈ ρ2.m ∧ D ∉ ρ2.ad ∧ Ext ρ1 H1 ρ2 H' ∧ cloop2 tg tst it1 tg1 tst1 elt vs1 (wipeE Γ vs) src m (i + 1) S2 = .ok r S' ∧ H' D = some (.lst xs) ∧ RpL K H' ρ2.m xs acc ∧ acc ++ r = res, fun H' hN => ⟨m, Nat.lt_succ_self _, hN⟩, fun x H3 hx => ?_⟩
          obtain ⟨hg, hr⟩ := hy x H3 hx
          obtain ⟨gS3, gx3⟩ := grown gS hg
          refine ⟨wipeE Γ vs, S2, ρ2, d, Γ2, gS3, hEw.ext gx3, hr, ht, fun σ' hE' hw => ⟨wipe_same hw hv, ?_⟩⟩
          refine ⟨Γ2, S2, ρ2, b, S4, gS3, hE', e4, fun ρ4 H4 gx4 gS4 => ?_⟩
          have x4 : Ext ρ2 H2 ρ4 H4 := gx3.trans gx4
          obtain ⟨d4m, d4a⟩ := x4.stay D gDm gDa
          have gD4 := x4.keep D _ gD (.inl gDa)
          cases b with
          | false =>
            dsimp only
            rw [if_neg Bool.false_ne_true]
            rw [if_neg Bool.false_ne_true] at gl
            exact ⟨S4, ρ4, acc, xs, r, gS4, d4m, d4a, gx.trans x4, gl, gD4, RpL.cov x4.cov _ _ gr, ge⟩
          | true =>
            dsimp only
            rw [if_pos rfl]
            rw [if_pos rfl] at gl
            obtain ⟨src1, S5, e5, gl⟩ := R.bind_ok gl
            obtain ⟨r1, S6, e6, gl⟩ := R.bind_ok gl
            obtain ⟨r2, S7, e7, gl⟩ := R.bind_ok gl
            cases gl
            refine ⟨Γ2, S4, ρ4, src1, S5, gS4, hE'.ext gx4, e5, fun ρ5 H5 J1 gx5 gS5 hJ1 => ?_⟩
            have x5 : Ext ρ2 H2 ρ5 H5 := x4.trans gx5
            obtain ⟨d5m, d5a⟩ := x5.stay D gDm gDa
            have gD5 := x5.keep D _ gD (.inl gDa)
            have gr5 := RpL.cov x5.cov _ _ gr
            have hE5 := (hE'.ext gx4).ext gx5
            refine ⟨fun j k H6 => ∃ S8 ρ6 acc1 xs1 r3, StR K ρ6 S8 H6 ∧ D ∈ ρ6.m ∧ D ∉ ρ6.ad ∧ Wx ρ5 H5 ρ6 H6 ∧ Ext ρ1 H1 ρ6 H6 ∧ cloop tg1 tst1 elt (wipeE Γ2 vs1) src1 k j S8 = .ok r3 S6 ∧ H6 D = some (.lst xs1) ∧ RpL K H6 ρ6.m xs1 (acc ++ acc1) ∧ acc1 ++ r3 = r1, ?_, ?_⟩
            · exact ⟨fuelOf src1, S5, ρ5, [], xs, r1, gS5, d5m, d5a, Wx.refl, gx.trans x5, e6, gD5, by rw [List.append_nil]; exact gr5, rfl⟩
            · rintro j k H6 ⟨S8, ρ6, acc1, xs1, r3, kS, kDm, kDa, kw, kx, kl, kD, kr, ke⟩
              obtain ⟨go1, stop1⟩ := src_goW hJ1 kw kS
              have hE6 : EnR K H6 ρ6 (wipe σ' vs1) (wipeE Γ2 vs1) := (hE5.wipe vs1).wx kw
              cases k with
              | zero => cases kl
              | succ k =>
                unfold cloop at kl
                split at kl
                · cases kl
                · rename_i e8
                  cases kl
                  rw [List.append_nil] at ke
                  subst ke
                  exact .inl ⟨stop1 j e8, S6, ρ6, acc ++ acc1, xs1, r2, kS, kDm, kDa, kx, e7, kD, kr, by rw [List.append_assoc]; exact ge⟩
                · rename_i d1 e8
                  split at kl
                  · cases kl
                  · rename_i Γ3 ht1
                    obtain ⟨b1, S9, e9, kl⟩ := R.bind_ok kl
                    obtain ⟨hgo1, hy1⟩ := go1 j d1 e8
                    refine .inr ⟨hgo1, fun H' => ∃ S8 ρ6 acc1 xs1 r3, StR K ρ6 S8 H' ∧ D ∈ ρ6.m ∧ D ∉ ρ6.ad ∧ Wx ρ5 H5 ρ6 H' ∧ Ext ρ1 H1 ρ6 H' ∧ cloop tg1 tst1 elt (wipeE Γ2 vs1) src1 k (j + 1) S8 = .ok r3 S6 ∧ H' D = some (.lst xs1) ∧ RpL K H' ρ6.m xs1 (acc ++ acc1) ∧ acc1 ++ r3 = r1, fun H' hN => ⟨k, Nat.lt_succ_self _, hN⟩, fun x1 H7 hx1 => ?_⟩
                    obtain ⟨hg1, hr1⟩ := hy1 x1 H7 hx1
                    obtain ⟨kS7, kx7⟩ := grown kS hg1
                    refine ⟨wipeE Γ2 vs1, S8, ρ6, d1, Γ3, kS7, hE6.ext kx7, hr1, ht1, fun σ3 hE3 hw3 => ⟨wipe_same hw3 hv1, ?_⟩⟩
                    refine ⟨Γ3, S8, ρ6, b1, S9, kS7, hE3, e9, fun ρ8 H8 kx8 kS8 => ?_⟩
                    have y8 : Ext ρ6 H6 ρ8 H8 := kx7.trans kx8
                    obtain ⟨d8m, d8a⟩ := y8.stay D kDm kDa
                    have kD8 := y8.keep D _ kD (.inl kDa)
                    have kr8 := RpL.cov y8.cov _ _ kr
                    cases b1 with
                    | false =>
                      dsimp only
                      rw [if_neg Bool.false_ne_true]
                      rw [if_neg Bool.false_ne_true] at kl
                      exact ⟨S9, ρ8, acc1, xs1, r3, kS8, d8m, d8a, kw.ext y8, kx.trans y8, kl, kD8, kr8, ke⟩
                    | true =>
                      dsimp only
                      rw [if_pos rfl]
                      rw [if_pos rfl] at kl
                      obtain ⟨v1, S10, e10, kl⟩ := R.bind_ok kl
                      refine ⟨Γ3, S9, ρ8, v1, S10, kS8, hE3.ext kx8, e10, fun ρ9 H9 y kx9 kS9 hy9 => ?_⟩
                      split at kl
                      · rename_i yd
                        obtain ⟨r', S11, e11, kl⟩ := R.bind_ok kl
                        cases kl
                        have y9 : Ext ρ6 H6 ρ9 H9 := y8.trans kx9
                        obtain ⟨d9m, d9a⟩ := y9.stay D kDm kDa
                        have kD9 := y9.keep D _ kD (.inl kDa)
                        have kr9 := RpL.cov y9.cov _ _ kr
                        refine ⟨xs1, kD9, ?_, ?_⟩
                        · rw [kr9.length, ← SZ_eq]
                          rw [← ge, ← ke, List.length_append, List.length_append, List.length_append, List.length_cons] at hz
                          rw [List.length_append]
                          omega
                        · obtain ⟨s5, cv5⟩ := kS9.apartSet (o := .lst (xs1 ++ [y])) d9m d9a
                          refine ⟨S10, ρ9, acc1 ++ [yd], xs1 ++ [y], r', s5, d9m, d9a, (kw.ext y9).put d5m, ext_put (kx.trans y9) hD, e11, upd_same, ?_, by rw [List.append_assoc]; exact ke⟩
                          rw [← List.append_assoc]
                          exact RpL.cov cv5 _ _ (kr9.snoc hy9)
                      · cases kl
end
end L2.Pv

set_option Elab.async false
set_option linter.all false
set_option maxRecDepth 100000
namespace L2.Pv
open PySem PySem.Spec PyProof.Rows L2

/-! ### statements -/
inductive Fl where
  | nx (Γ : Env)
  | rt (v : Vl)
  | bk (Γ : Env)
  | ct (Γ : Env)
abbrev SS := Env → Sto → R Fl
def SC (K : Fg) (ρ : Pl) (H : Hp) (S' : Sto) (D : Ends) : Fl → Prop
  | .nx Γ' => ∀ ρ' H' σ', Ext ρ H ρ' H' → StR K ρ' S' H' → EnR K H' ρ' σ' Γ' → D.nx σ' H'
  | .rt v => ∀ ρ' H' x, Ext ρ H ρ' H' → StR K ρ' S' H' → Vr K H' ρ' x v → D.rt x H'
  | .bk Γ' => ∀ ρ' H' σ', Ext ρ H ρ' H' → StR K ρ' S' H' → EnR K H' ρ' σ' Γ' → D.bk σ' H'
  | .ct Γ' => ∀ ρ' H' σ', Ext ρ H ρ' H' → StR K ρ' S' H' → EnR K H' ρ' σ' Γ' → D.ct σ' H'
def LS (K : Fg) (f : SS) : TS := fun D σ H => ∃ Γ S ρ fl S', StR K ρ S H ∧ EnR K H ρ σ Γ ∧ f Γ S = .ok fl S' ∧ SC K ρ H S' D fl
theorem SC.mono {K : Fg} {ρ ρ1 : Pl} {H H1 : Hp} {S' : Sto} {D : Ends} {fl : Fl} (x : Ext ρ H ρ1 H1) (h : SC K ρ H S' D fl) : SC K ρ1 H1 S' D fl := by
  cases fl with
  | nx Γ => exact fun ρ' H' σ' x' => h ρ' H' σ' (x.trans x')
  | rt v => exact fun ρ' H' σ' x' => h ρ' H' σ' (x.trans x')
  | bk Γ => exact fun ρ' H' σ' x' => h ρ' H' σ' (x.trans x')
  | ct Γ => exact fun ρ' H' σ' x' => h ρ' H' σ' (x.trans x')
def sSkip : SS := fun Γ S => .ok (.nx Γ) S
def sThen (f : Fl) (S : Sto) (b : SS) : R Fl := match f with
  | .nx Γ => b Γ S
  | f => .ok f S
def sSeq (a b : SS) : SS := fun Γ S => (a Γ S).bind fun f S1 => sThen f S1 b
def sDrop (e : SE) : SS := fun Γ S => (e Γ S).bind fun _ S1 => .ok (.nx Γ) S1
def sRet (e : SE) : SS := fun Γ S => (e Γ S).bind fun v S1 => .ok (.rt v) S1
def sRetN : SS := fun _ S => .ok (.rt (.d .none)) S
def sIte (c : ST) (a b : SS) : SS := fun Γ S => (c Γ S).bind fun x S1 => if x = true then a Γ S1 else b Γ S1
def sSet (i : Nat) (e : SE) : SS := fun Γ S => (e Γ S).bind fun v S1 => .ok (.nx (Γ.set i (some v))) S1
def sAsg (t : Tg) (e : SE) : SS := fun Γ S => (e Γ S).bind fun v S1 => match v with
  | .d d => match t d Γ with
    | some Γ' => .ok (.nx Γ') S1
    | none => .bad
  | _ => .bad
def sPar (i j : Nat) (a b : SE) : SS := fun Γ S => (a Γ S).bind fun v S1 => (b Γ S1).bind fun w S2 => .ok (.nx ((Γ.set i (some v)).set j (some w))) S2
def sBrk : SS := fun Γ S => .ok (.bk Γ) S
def sCnt : SS := fun Γ S => .ok (.ct Γ) S
def sBad : SS := fun _ _ => .bad
/-- a[i] = e: a list of the store -/
def gPutL (n : Nat) (ds : List PyData) (k d : PyData) (S : Sto) : Option Sto := match k with
  | .int j => (ixN ds.length j).map fun p => S.set n (.lst (ds.set p d))
  | _ => none
def gPut (o i v : Vl) (S : Sto) : Option Sto := match o with
  | .o n => match i with
    | .d k => match v with
      | .d d => match lstOf S n with
        | some ds => gPutL n ds k d S
        | none => match dctOf S n with
          | some kds => if kindB kds k = true ∧ kds.length < SZ then some (S.set n (.dct (dPut kds k d))) else none
          | none => none
      | _ => none
    | _ => none
  | _ => none
/-- the object that a name stands for is data from now on -/
def sFz (i : Nat) (b : SS) : SS := fun Γ S => match Γ[i]? with
  | some (some (.o n)) => match S[n]? with
    | some (.lst ds) => b (Γ.set i (some (.d (.list ds)))) (S.set n .dead)
    | some (.dct kds) => b (Γ.set i (some (.d (.dict kds)))) (S.set n .dead)
    | _ => b Γ S
  | _ => b Γ S
def sPut (o i e : SE) : SS := fun Γ S => (e Γ S).bind fun v S1 => (o Γ S1).bind fun x S2 => (i Γ S2).bind fun y S3 => match gPut x y v S3 with
  | some S4 => .ok (.nx Γ) S4
  | none => .bad
def floop (tg : Tg) (b : SS) (src : Src) : Nat → Nat → Env → Sto → R Fl
  | 0, _, _, _ => .bad
  | f + 1, i, Γ, S => match nxt src S i with
    | none => .bad
    | some none => .ok (.nx Γ) S
    | some (some d) => match tg d Γ with
      | none => .bad
      | some Γ2 => (b Γ2 S).bind fun fl S1 => match fl with
        | .nx Γ3 => floop tg b src f (i + 1) Γ3 S1
        | .ct Γ3 => floop tg b src f (i + 1) Γ3 S1
        | .bk Γ3 => .ok (.nx Γ3) S1
        | .rt v => .ok (.rt v) S1
def sFor (it : SI) (tg : Tg) (b : SS) : SS := fun Γ S => (it Γ S).bind fun src S1 => floop tg b src (fuelOf src) 0 Γ S1
def wloop (c : ST) (b : SS) : Nat → Env → Sto → R Fl
  | 0, _, _ => .bad
  | f + 1, Γ, S => (c Γ S).bind fun x S1 => if x = true then (b Γ S1).bind fun fl S2 => match fl with
        | .nx Γ3 => wloop c b f Γ3 S2
        | .ct Γ3 => wloop c b f Γ3 S2
        | .bk Γ3 => .ok (.nx Γ3) S2
        | .rt v => .ok (.rt v) S2
      else .ok (.nx Γ) S1
def sWhile (c : ST) (b : SS) : SS := wloop c b bigFuel

section
variable {X : Cx} {e a c : Expr} {fe fa fc : SE} {ta : ST} {sa sb : SS} {st : Stmt} {rest body : List Stmt} {pos : Pos}
theorem _root_.L2.PS.weak {e : Stmt} {t t' : TS} (h : PS X e t) (w : ∀ D σ H, t' D σ H → t D σ H) : PS X e t' := ⟨fun pins s σ H D I hq => h.run pins s σ H D I (w _ _ _ hq)⟩
theorem _root_.L2.PSs.weak {e : List Stmt} {t t' : TS} (h : PSs X e t) (w : ∀ D σ H, t' D σ H → t D σ H) : PSs X e t' := ⟨fun pins s σ H D I hq => h.run pins s σ H D I (w _ _ _ hq)⟩
theorem ls_nil : PSs X [] (LS X.F sSkip) := pss_nil.weak fun D σ H ⟨Γ, S, ρ, fl, S', hS, hE, hf, hc⟩ => by
  cases hf
  exact hc ρ H σ (Ext.refl hS) hS hE
theorem ls_cons (h1 : PS X st (LS X.F sa)) (h2 : PSs X rest (LS X.F sb)) : PSs X (st :: rest) (LS X.F (sSeq sa sb)) := (pss_cons h1 h2).weak fun D σ H ⟨Γ, S, ρ, fl, S', hS, hE, hf, hc⟩ => by
  obtain ⟨f1, S1, h3, hf⟩ := R.bind_ok hf
  refine ⟨Γ, S, ρ, f1, S1, hS, hE, h3, ?_⟩
  cases f1 with
  | nx Γ1 => exact fun ρ' H' σ' x hS' hE' => ⟨Γ1, S1, ρ', fl, S', hS', hE', hf, hc.mono x⟩
  | rt v => cases hf; exact hc
  | bk Γ1 => cases hf; exact hc
  | ct Γ1 => cases hf; exact hc
theorem ls_one (h1 : PS X st (LS X.F sa)) : PSs X [st] (LS X.F sa) := pss_one h1
theorem ls_pass : PS X (.Pass pos) (LS X.F sSkip) := ps_pass.weak fun D σ H ⟨Γ, S, ρ, fl, S', hS, hE, hf, hc⟩ => by
  cases hf
  exact hc ρ H σ (Ext.refl hS) hS hE
theorem ls_doc {x : Str} {j : Nat} {p2 : Pos} : PS X (.Expr (.Constant (.str x) j p2) pos) (LS X.F sSkip) := ps_doc.weak fun D σ H ⟨Γ, S, ρ, fl, S', hS, hE, hf, hc⟩ => by
  cases hf
  exact hc ρ H σ (Ext.refl hS) hS hE
theorem ls_brk : PS X (.Break pos) (LS X.F sBrk) := ps_break.weak fun D σ H ⟨Γ, S, ρ, fl, S', hS, hE, hf, hc⟩ => by
  cases hf
  exact hc ρ H σ (Ext.refl hS) hS hE
theorem ls_cnt : PS X (.Continue pos) (LS X.F sCnt) := ps_continue.weak fun D σ H ⟨Γ, S, ρ, fl, S', hS, hE, hf, hc⟩ => by
  cases hf
  exact hc ρ H σ (Ext.refl hS) hS hE
theorem ls_bad : PS X st (LS X.F sBad) := ps_never.weak fun D σ H ⟨Γ, S, ρ, fl, S', hS, hE, hf, hc⟩ => by
  cases hf
theorem ls_drop (he : PE X e (LE X.F fe)) (hs : swapsWith e none pos.line X.env = pure false) : PS X (.Expr e pos) (LS X.F (sDrop fe)) := (ps_expr he hs).weak fun D σ H ⟨Γ, S, ρ, fl, S', hS, hE, hf, hc⟩ => by
  obtain ⟨v, S1, h1, hf⟩ := R.bind_ok hf
  cases hf
  exact ⟨Γ, S, ρ, v, _, hS, hE, h1, fun ρ1 H1 x x1 hS1 _ => hc ρ1 H1 σ x1 hS1 (hE.ext x1)⟩
theorem ls_ret (he : PE X e (LE X.F fe)) : PS X (.Return (some e) pos) (LS X.F (sRet fe)) := (ps_ret he).weak fun D σ H ⟨Γ, S, ρ, fl, S', hS, hE, hf, hc⟩ => by
  obtain ⟨v, S1, h1, hf⟩ := R.bind_ok hf
  cases hf
  exact ⟨Γ, S, ρ, _, _, hS, hE, h1, hc⟩
theorem ls_retN : PS X (.Return none pos) (LS X.F sRetN) := ps_retN.weak fun D σ H ⟨Γ, S, ρ, fl, S', hS, hE, hf, hc⟩ => by
  cases hf
  exact hc ρ H _ (Ext.refl hS) hS (show Rp _ _ _ _ _ from .non)
theorem ls_if {a b : List Stmt} (hc : PT X c (LT X.F ta)) (ha : PSs X a (LS X.F sa)) (hb : PSs X b (LS X.F sb)) : PS X (.If c a b pos) (LS X.F (sIte ta sa sb)) := (ps_if hc ha hb).weak fun D σ H ⟨Γ, S, ρ, fl, S', hS, hE, hf, hc⟩ => by
  obtain ⟨v, S1, h1, hf⟩ := R.bind_ok hf
  refine ⟨Γ, S, ρ, v, S1, hS, hE, h1, fun ρ1 H1 x1 hS1 => ?_⟩
  cases v with
  | true =>
    rw [if_pos rfl] at hf ⊢
    exact ⟨Γ, S1, ρ1, fl, S', hS1, hE.ext x1, hf, hc.mono x1⟩
  | false =>
    rw [if_neg Bool.false_ne_true] at hf ⊢
    exact ⟨Γ, S1, ρ1, fl, S', hS1, hE.ext x1, hf, hc.mono x1⟩
theorem ls_set_of {i : Nat} {t : TS} (h : PS X st (tAsg (LE X.F fe) (gName i))) : PS X st (LS X.F (sSet i fe)) := h.weak fun D σ H ⟨Γ, S, ρ, fl, S', hS, hE, hf, hc⟩ => by
  obtain ⟨v, S1, h1, hf⟩ := R.bind_ok hf
  cases hf
  exact ⟨Γ, S, ρ, _, _, hS, hE, h1, fun ρ1 H1 x x1 hS1 q1 => hc ρ1 H1 _ x1 hS1 ((hE.ext x1).set q1)⟩
theorem ls_asg {tg : Expr} {is : List Nat} {t : Tg} (he : PE X e (LE X.F fe)) (hg : PG X tg (LG X.F is t)) (hs : swapsWithSole [tg] e pos.line X.env = pure false) (hw : swappedStores [tg] e X.env = pure none) (h1 : (assignEach [tg] X.env).map (·.2) = [assign tg X.env]) :
    PS X (.Assign [tg] e pos) (LS X.F (sAsg t fe)) := (ps_asg he hg hs hw h1).weak fun D σ H ⟨Γ, S, ρ, fl, S', hS, hE, hf, hc⟩ => by
  obtain ⟨v, S1, h1, hf⟩ := R.bind_ok hf
  split at hf
  · split at hf
    · rename_i Γ' ht
      cases hf
      exact ⟨Γ, S, ρ, _, _, hS, hE, h1, fun ρ1 H1 x x1 hS1 q1 => ⟨Γ, S', ρ1, _, Γ', hS1, hE.ext x1, q1, ht, fun σ' hE' _ => hc ρ1 H1 σ' x1 hS1 hE'⟩⟩
    · cases hf
  · cases hf
def rPut (K : Fg) : TSet := fun x y z H Q => ∃ ρ S vo vi vv S', StR K ρ S H ∧ Vr K H ρ x vo ∧ Vr K H ρ y vi ∧ Vr K H ρ z vv ∧ gPut vo vi vv S = some S' ∧ ∀ ρ' H', Ext ρ H ρ' H' → StR K ρ' S' H' → Q H'
theorem set_put (hu : X.A.units + 64 < cLine) : PSet X (rPut X.F) := by
  intro pins s σ H o i v ov iv u Q I ro ri rv ⟨ρ, S, vo, vi, vv, S', hS, ho, hi, hv, e, hc⟩
  unfold gPut at e
  split at e
  · rename_i n
    split at e
    · rename_i k
      split at e
      · rename_i d
        obtain ⟨a, ha, rfl⟩ := ho
        split at e
        · rename_i ds el
          unfold gPutL at e
          split at e
          · rename_i j
            obtain ⟨p, hp, rfl⟩ := Option.map_eq_some_iff.mp e
            obtain ⟨xs, h3, h4⟩ := hS.lstAt ha el
            have hm : a ∈ ρ.m := hS.lstIn ha el
            cases (show Rp _ _ _ _ _ from hi)
            have cv : Cov ρ.m H ρ.m (upd H a (.lst (xs.set p v))) := ⟨fun b u hb hn => by rw [upd_ne (fun q => hn (by rw [q]; exact hm))]; exact hb, fun _ _ _ n => n⟩
            obtain ⟨g1, g2⟩ := hS.put (o := .lst (xs.set p v)) (p := .lst (ds.set p d)) ha hm ⟨hm, _, upd_same, RpL.cov cv _ _ (h4.set p hv)⟩
            exact set_list pins s σ H _ _ v ov iv u Q I ro ri rv ⟨a, xs, j, p, rfl, rfl, h3, by rw [h4.length]; exact hp, hc _ _ g2 g1⟩
          · cases e
        · split at e
          · rename_i kds ed
            split at e
            · rename_i hk
              cases e
              obtain ⟨hm, D⟩ := hS.dctAt ha ed
              cases ro
              refine dd_setItem hu I D hk.1 (by rw [← SZ_eq]; exact hk.2) hi ri rv hv fun es' ep' s' hr I' => ?_
              have cv : Cov ρ.m H ρ.m (upd H a (dO a es' ep')) := ⟨fun b u hb hn => by rw [upd_ne (fun q => hn (by rw [q]; exact hm))]; exact hb, fun _ _ _ n => n⟩
              obtain ⟨g1, g2⟩ := hS.put (o := dO a es' ep') (p := .dct (dPut kds k d)) ha hm ⟨hm, es', ep', upd_same, put_ok D.1 hk.1, RpD.cov cv _ _ hr⟩
              exact ⟨_, I', hc _ _ g2 g1⟩
            · cases e
          · cases e
      · cases e
    · cases e
  · cases e
theorem ls_put {o i : Expr} {fo fi : SE} {p2 : Pos} (hu : X.A.units + 64 < cLine) (ho : PE X o (LE X.F fo)) (hi : PE X i (LE X.F fi)) (he : PE X e (LE X.F fe)) (hs : swapsWithSole [.Subscript o i p2] e pos.line X.env = pure false) (hw : swappedStores [.Subscript o i p2] e X.env = pure none) (hcell : ∀ v, assign (.Subscript o i p2) X.env v = (do
      let ov ← holding [v] (eval o X.env)
      let iv ← holding [v, ov] (eval i X.env)
      standAt p2
      holding [v, ov, iv] (setItem ov iv v)
      release [v, ov, iv] [])) :
    PS X (.Assign [.Subscript o i p2] e pos) (LS X.F (sPut fo fi fe)) := (ps_asg he (pg_sub ho hi (set_put hu) hcell) hs hw rfl).weak fun D σ H ⟨Γ, S, ρ, fl, S', hS, hE, hf, hc⟩ => by
  obtain ⟨v, S1, h1, hf⟩ := R.bind_ok hf
  obtain ⟨x, S2, h2, hf⟩ := R.bind_ok hf
  obtain ⟨y, S3, h3, hf⟩ := R.bind_ok hf
  split at hf
  · rename_i S4 e4
    cases hf
    refine ⟨Γ, S, ρ, v, S1, hS, hE, h1, fun ρ1 H1 z x1 hS1 q1 => ?_⟩
    refine ⟨Γ, S1, ρ1, x, S2, hS1, hE.ext x1, h2, fun ρ2 H2 u x2 hS2 q2 => ?_⟩
    refine ⟨Γ, S2, ρ2, y, S3, hS2, (hE.ext x1).ext x2, h3, fun ρ3 H3 w x3 hS3 q3 => ?_⟩
    refine ⟨ρ3, S3, x, y, v, _, hS3, q2.ext x3, q3, (q1.ext x2).ext x3, e4, fun ρ4 H4 x4 hS4 => ?_⟩
    exact hc ρ4 H4 σ (((x1.trans x2).trans x3).trans x4) hS4 ((((hE.ext x1).ext x2).ext x3).ext x4)
  · cases hf
theorem ls_fz {i : Nat} (h : PS X st (LS X.F sa)) : PS X st (LS X.F (sFz i sa)) := h.weak fun D σ H ⟨Γ, S, ρ, fl, S', hS, hE, hf, hc⟩ => by
  unfold sFz at hf
  split at hf
  · rename_i n e
    obtain ⟨x, hx, a, ha, rfl⟩ := hE.get e
    have hσ : σ.set i (some (.ref a)) = σ := by
      apply List.ext_getElem?
      intro j
      by_cases hj : i = j
      · subst hj
        rw [List.getElem?_set_self (List.getElem?_eq_some_iff.mp hx).1, hx]
      · rw [List.getElem?_set_ne hj]
    have fin : ∀ d, Rp X.F H (ρ.less a).m (.ref a) d → sa (Γ.set i (some (.d d))) (S.set n .dead) = .ok fl S' → LS X.F sa D σ H := fun d hd hf => by
      obtain ⟨f1, f2⟩ := hS.freeze ha
      refine ⟨_, _, ρ.less a, fl, S', f1, ?_, hf, hc.mono f2⟩
      have := (hE.ext f2).set (i := i) (v := .d d) (x := .ref a) hd
      rwa [hσ] at this
    have hnm : a ∉ (ρ.less a).m := fun z => (less_mem.mp z).2 rfl
    split at hf
    · rename_i ds eo
      obtain ⟨_, xs, h1, h2⟩ := hS.get ha eo
      exact fin _ (.lst ⟨h1, hnm⟩ (RpL.cov less_cov _ _ h2)) hf
    · rename_i kds eo
      obtain ⟨_, es, ep, h1, h2, h3⟩ := hS.get ha eo
      exact fin _ (.dct h1 hnm h2 (RpD.cov less_cov _ _ h3)) hf
    · exact ⟨Γ, S, ρ, fl, S', hS, hE, hf, hc⟩
  · exact ⟨Γ, S, ρ, fl, S', hS, hE, hf, hc⟩
theorem ls_par {i j : Nat} {a b : Expr} {fa fb : SE} (hp : ∀ ta, PA X [a, b] ta → PS X st (tPar i j ta)) (ha : PE X a (LE X.F fa)) (hb : PE X b (LE X.F fb)) (hs : starEach [a, b] X.env = (false, eval a X.env) :: starEach [b] X.env) (hs2 : starEach [b] X.env = (false, eval b X.env) :: starEach [] X.env) :
    PS X st (LS X.F (sPar i j fa fb)) := (hp _ (pa_cons ha (pa_cons hb pa_nil hs2) hs)).weak fun D σ H ⟨Γ, S, ρ, fl, S', hS, hE, hf, hc⟩ => by
  obtain ⟨v, S1, h1, hf⟩ := R.bind_ok hf
  obtain ⟨w, S2, h2, hf⟩ := R.bind_ok hf
  cases hf
  refine ⟨Γ, S, ρ, v, S1, hS, hE, h1, fun ρ1 H1 z x1 hS1 q1 => ?_⟩
  refine ⟨Γ, S1, ρ1, w, _, hS1, hE.ext x1, h2, fun ρ2 H2 u x2 hS2 q2 => ?_⟩
  exact ⟨z, u, rfl, hc ρ2 H2 _ (x1.trans x2) hS2 ((((hE.ext x1).ext x2).set (q1.ext x2)).set q2)⟩
theorem ls_for {tg iter : Expr} {is : List Nat} {t : Tg} {it : SI} (hx : X.xe = fun _ _ => False) (hc : X.calm = true) (hi : PI X tg iter (LI X.F it)) (hg : PG X tg (LG X.F is t)) (hb : PSs X body (LS X.F sa)) (hs : ∀ x, foldedSetIterable iter X.env x = pure x) :
    PS X (.For tg iter body [] pos) (LS X.F (sFor it t sa)) := (ps_for (by rw [hx]; exact PassesOwn.never) hc hi hg hb hs).weak fun D σ H ⟨Γ, S, ρ, fl, S', hS, hE, hf, hc⟩ => by
  obtain ⟨src, S1, h1, hf⟩ := R.bind_ok hf
  refine ⟨Γ, S, ρ, src, S1, hS, hE, h1, fun ρ1 H1 J x1 hS1 hJ => ?_⟩
  have hc1 := hc.mono x1
  refine ⟨fun i m σ2 H2 => ∃ Γ2 S2 ρ2, StR X.F ρ2 S2 H2 ∧ EnR X.F H2 ρ2 σ2 Γ2 ∧ Ext ρ1 H1 ρ2 H2 ∧ floop t sa src m i Γ2 S2 = .ok fl S', ⟨fuelOf src, Γ, S1, ρ1, hS1, hE.ext x1, Ext.refl hS1, hf⟩, ?_⟩
  rintro i m σ2 H2 ⟨Γ2, S2, ρ2, gS, gE, gx, gl⟩
  obtain ⟨go, stop⟩ := src_go hJ gx gS
  have hc2 := hc1.mono gx
  cases m with
  | zero => cases gl
  | succ m =>
    unfold floop at gl
    split at gl
    · cases gl
    · rename_i e
      cases gl
      exact .inl ⟨stop i e, hc2 ρ2 H2 σ2 (Ext.refl gS) gS gE⟩
    · rename_i d e
      split at gl
      · cases gl
      · rename_i Γ3 ht
        obtain ⟨f4, S4, e4, gl⟩ := R.bind_ok gl
        obtain ⟨hgo, hy⟩ := go i d e
        refine .inr ⟨hgo, fun σ' H' => ∃ Γ2 S2 ρ2, StR X.F ρ2 S2 H' ∧ EnR X.F H' ρ2 σ' Γ2 ∧ Ext ρ1 H1 ρ2 H' ∧ floop t sa src m (i + 1) Γ2 S2 = .ok fl S', fun σ' H' hN => ⟨m, Nat.lt_succ_self _, hN⟩, fun x H3 hx3 => ?_⟩
        obtain ⟨hg3, hr⟩ := hy x H3 hx3
        obtain ⟨gS3, gx3⟩ := grown gS hg3
        refine ⟨Γ2, S2, ρ2, d, Γ3, gS3, gE.ext gx3, hr, ht, fun σ' hE' _ => ?_⟩
        refine ⟨Γ3, S2, ρ2, f4, S4, gS3, hE', e4, ?_⟩
        cases f4 with
        | nx Γ5 => exact fun ρ' H' σ' x' hS' hE' => ⟨Γ5, S4, ρ', hS', hE', (gx.trans gx3).trans x', gl⟩
        | ct Γ5 => exact fun ρ' H' σ' x' hS' hE' => ⟨Γ5, S4, ρ', hS', hE', (gx.trans gx3).trans x', gl⟩
        | bk Γ5 =>
          cases gl
          exact fun ρ' H' σ' x' hS' hE' => hc2 ρ' H' σ' (gx3.trans x') hS' hE'
        | rt v =>
          cases gl
          exact fun ρ' H' σ' x' hS' hE' => hc2 ρ' H' σ' (gx3.trans x') hS' hE'
theorem ls_while (hx : X.xe = fun _ _ => False) (hc : PT X c (LT X.F ta)) (hb : PSs X body (LS X.F sa)) : PS X (.While c body [] pos) (LS X.F (sWhile ta sa)) := (ps_while (by rw [hx]; exact PassesOwn.never) hc hb).weak fun D σ H ⟨Γ, S, ρ, fl, S', hS, hE, hf, hc⟩ => by
  refine ⟨fun m σ2 H2 => ∃ Γ2 S2 ρ2, StR X.F ρ2 S2 H2 ∧ EnR X.F H2 ρ2 σ2 Γ2 ∧ Ext ρ H ρ2 H2 ∧ wloop ta sa m Γ2 S2 = .ok fl S', ⟨bigFuel, Γ, S, ρ, hS, hE, Ext.refl hS, hf⟩, ?_⟩
  rintro m σ2 H2 ⟨Γ2, S2, ρ2, gS, gE, gx, gl⟩
  have hc2 := hc.mono gx
  cases m with
  | zero => cases gl
  | succ m =>
    unfold wloop at gl
    obtain ⟨v, S3, e3, gl⟩ := R.bind_ok gl
    refine ⟨Γ2, S2, ρ2, v, S3, gS, gE, e3, fun ρ3 H3 x3 hS3 => ?_⟩
    cases v with
    | false =>
      dsimp only
      rw [if_neg Bool.false_ne_true] at gl ⊢
      cases gl
      exact hc2 ρ3 H3 σ2 x3 hS3 (gE.ext x3)
    | true =>
      dsimp only
      rw [if_pos rfl] at gl ⊢
      obtain ⟨f4, S4, e4, gl⟩ := R.bind_ok gl
      refine ⟨fun σ' H' => ∃ Γ2 S2 ρ2, StR X.F ρ2 S2 H' ∧ EnR X.F H' ρ2 σ' Γ2 ∧ Ext ρ H ρ2 H' ∧ wloop ta sa m Γ2 S2 = .ok fl S', fun σ' H' hN => ⟨m, Nat.lt_succ_self _, hN⟩, ?_⟩
      refine ⟨Γ2, S3, ρ3, f4, S4, hS3, gE.ext x3, e4, ?_⟩
      cases f4 with
      | nx Γ5 => exact fun ρ' H' σ' x' hS' hE' => ⟨Γ5, S4, ρ', hS', hE', (gx.trans x3).trans x', gl⟩
      | ct Γ5 => exact fun ρ' H' σ' x' hS' hE' => ⟨Γ5, S4, ρ', hS', hE', (gx.trans x3).trans x', gl⟩
      | bk Γ5 =>
        cases gl
        exact fun ρ' H' σ' x' hS' hE' => hc2 ρ' H' σ' (x3.trans x') hS' hE'
      | rt v =>
        cases gl
        exact fun ρ' H' σ' x' hS' hE' => hc2 ρ' H' σ' (x3.trans x') hS' hE'
end
end L2.Pv

set_option Elab.async false
set_option linter.all false
set_option maxRecDepth 100000
namespace L2.Pv
open PySem PySem.Spec PyProof.Rows L2

/-! ### methods -/
def gAppend (x : Vl) : GL := fun vs S => match x with
  | .o n => match vs with
    | [.d y] => match lstOf S n with
      | some ds => if ds.length < SZ then .ok (.d .none) (S.set n (.lst (ds ++ [y]))) else .bad
      | none => .bad
    | _ => .bad
  | _ => .bad
def gExtend (x : Vl) : GL := fun vs S => match x with
  | .o n => match vs with
    | [.d (.list es)] => match lstOf S n with
      | some ds => if ds.length + es.length ≤ SZ then .ok (.d .none) (S.set n (.lst (ds ++ es))) else .bad
      | none => .bad
    | _ => .bad
  | _ => .bad
/-- xs.pop(), xs.pop(i) -/
def gPop (x : Vl) : GL := fun vs S => match x with
  | .o n => match lstOf S n with
    | some ds => match vs with
      | [] => match ds[ds.length - 1]? with
        | some d => .ok (.d d) (S.set n (.lst ds.dropLast))
        | none => .bad
      | [v] => match intOf v with
        | some i => match ixN ds.length i with
          | some j => match ds[j]? with
            | some d => .ok (.d d) (S.set n (.lst (ds.eraseIdx j)))
            | none => .bad
          | none => .bad
        | none => .bad
      | _ => .bad
    | none => .bad
  | _ => .bad
def strsOf : List PyData → Option (List Str)
  | [] => some []
  | .str x :: r => (strsOf r).map (x :: ·)
  | _ :: _ => none
def gJoin (x : Vl) : GL := fun vs S => match x with
  | .d (.str a) => match vs with
    | [v] => match sqOf S v with
      | some (.l ds) => match strsOf ds with
        | some ys => if (ys.map (·.length)).sum + ys.length * a.length ≤ 16777216 then .ok (.d (.str (Str.join a ys))) S else .bad
        | none => .bad
      | some (.t ds) => match strsOf ds with
        | some ys => if (ys.map (·.length)).sum + ys.length * a.length ≤ 16777216 then .ok (.d (.str (Str.join a ys))) S else .bad
        | none => .bad
      | none => .bad
    | _ => .bad
  | _ => .bad
def gStarts (x : Vl) : GL := fun vs S => match x with
  | .d (.str a) => match vs with
    | [.d (.str b)] => .ok (.d (.bool (Txt.startswith a b))) S
    | _ => .bad
  | _ => .bad

section
variable {X : Cx} {o e : Expr} {fo fe : SE} {apos cpos : Pos} {K : Fg} {H : Hp} {ρ : Pl} {m : List Addr} {S : Sto}
theorem RpL.eraseIdx : ∀ (i : Nat) {ds : List PyData} {vs : List V}, RpL K H m vs ds → RpL K H m (vs.eraseIdx i) (ds.eraseIdx i)
  | _, [], _, h => by cases h; exact .nil
  | 0, d :: ds, _, h => by
    cases h with
    | cons a b => exact b
  | i + 1, d :: ds, _, h => by
    cases h with
    | cons a b => exact .cons a (RpL.eraseIdx i b)
theorem RpL.dropLast {ds : List PyData} {vs : List V} (h : RpL K H m vs ds) : RpL K H m vs.dropLast ds.dropLast := by
  rw [List.dropLast_eq_take, List.dropLast_eq_take, h.length]
  exact h.take _
/-- a list of the store gets other items -/
theorem put_lst (hS : StR K ρ S H) {n : Nat} {a : Addr} {xs : List V} {ds es : List PyData} (ha : ρ.ad[n]? = some a) (el : lstOf S n = some es) (h : RpL K H ρ.m xs ds) : StR K ρ (S.set n (.lst ds)) (upd H a (.lst xs)) ∧ Ext ρ H ρ (upd H a (.lst xs)) := by
  have hm : a ∈ ρ.m := hS.lstIn ha el
  exact hS.put ha hm ⟨hm, _, upd_same, RpL.cov ⟨fun b u hb hn => by rw [upd_ne (fun q => hn (by rw [q]; exact hm))]; exact hb, fun _ _ _ n => n⟩ _ _ h⟩
end
/-- a method of a list of the store, of a text -/
def sMetO (g : Vl → GL) (a : SE) (fs : List SE) : SE := fun Γ S => (a Γ S).bind fun x S1 => match x with
  | .o n => match lstOf S1 n with
    | some _ => (sArgs fs Γ S1).bind fun vs S2 => g x vs S2
    | none => .bad
  | _ => .bad
def sMetS (g : Vl → GL) (a : SE) (fs : List SE) : SE := fun Γ S => (a Γ S).bind fun x S1 => match x with
  | .d (.str _) => (sArgs fs Γ S1).bind fun vs S2 => g x vs S2
  | _ => .bad
section
variable {X : Cx} {o e : Expr} {fo fe : SE} {fs : List SE} {apos cpos : Pos} {K : Fg} {σ : L2.St} {H : Hp} {Q : VK}
theorem met_o {g : Vl → GL} {RR : V → List V → Hp → VK → Prop} (h2 : ∀ ρ S H n a xs vs v S' Q, StR K ρ S H → ρ.ad[n]? = some a → VrL K H ρ xs vs → g (.o n) vs S = .ok v S' → Cont K ρ H S' v Q → RR (.ref a) xs H Q)
    (h : LE K (sMetO g fo fs) σ H Q) : tBM K.K "list" RR (LE K fo) (LA K (sArgs fs)) σ H Q := by
  obtain ⟨Γ, S, ρ, v, S', hS, hE, hf, hc⟩ := h
  obtain ⟨va, S1, e1, hf⟩ := R.bind_ok hf
  refine ⟨Γ, S, ρ, va, S1, hS, hE, e1, fun ρ1 H1 x x1 hS1 q1 => ?_⟩
  split at hf
  · rename_i n
    split at hf
    · rename_i ds el
      obtain ⟨vs, S2, e2, hf⟩ := R.bind_ok hf
      obtain ⟨a, ha, rfl⟩ := q1
      obtain ⟨xs, h3, h4⟩ := hS1.lstAt ha el
      refine ⟨.inl ⟨rfl, xs, .of h3⟩, ?_⟩
      refine ⟨Γ, S1, ρ1, vs, S2, hS1, hE.ext x1, e2, fun ρ2 H2 ys x2 hS2 q2 => ?_⟩
      exact h2 ρ2 S2 H2 n a ys vs v S' Q hS2 (x2.ad ha) q2 hf fun ρ3 H3 z x3 hS3 q3 => hc ρ3 H3 z ((x1.trans x2).trans x3) hS3 q3
    · cases hf
  · cases hf
theorem mt_app (ρ S H n a xs vs v S' Q) (hS : StR K ρ S H) (ha : ρ.ad[n]? = some a) (hv : VrL K H ρ xs vs) (hg : gAppend (.o n) vs S = .ok v S') (hc : Cont K ρ H S' v Q) : rAppend (.ref a) xs H Q := by
  simp only [gAppend] at hg
  split at hg
  · rename_i y
    split at hg
    · rename_i ds el
      split at hg
      · rename_i hz
        cases hg
        obtain ⟨x, rfl, hx⟩ := hv.one rfl
        obtain ⟨zs, h3, h4⟩ := hS.lstAt ha el
        obtain ⟨g1, g2⟩ := put_lst hS ha el (h4.snoc hx)
        exact ⟨a, zs, x, rfl, rfl, h3, by rw [h4.length, ← SZ_eq]; exact hz, hc _ _ _ g2 g1 (show Rp _ _ _ _ _ from .non)⟩
      · cases hg
    · cases hg
  · cases hg
theorem mt_ext (ρ S H n a xs vs v S' Q) (hS : StR K ρ S H) (ha : ρ.ad[n]? = some a) (hv : VrL K H ρ xs vs) (hg : gExtend (.o n) vs S = .ok v S') (hc : Cont K ρ H S' v Q) : rExtend (.ref a) xs H Q := by
  simp only [gExtend] at hg
  split at hg
  · rename_i es
    split at hg
    · rename_i ds el
      split at hg
      · rename_i hz
        cases hg
        obtain ⟨x, rfl, hx⟩ := hv.one rfl
        obtain ⟨zs, h3, h4⟩ := hS.lstAt ha el
        cases (show Rp _ _ _ _ _ from hx) with
        | lst ta qa =>
          obtain ⟨g1, g2⟩ := put_lst hS ha el (h4.append qa)
          exact ⟨a, _, zs, _, rfl, rfl, h3, ta.1, by rw [h4.length, qa.length, ← SZ_eq]; exact hz, hc _ _ _ g2 g1 (show Rp _ _ _ _ _ from .non)⟩
      · cases hg
    · cases hg
  · cases hg
theorem ixN_bound {n : Nat} {i : Int} {j : Nat} (hn : n ≤ SZ) (h : ixN n i = some j) : -(2 ^ 63) ≤ i ∧ i < 2 ^ 63 := by
  obtain ⟨_, h2, h3, h4⟩ := ixN_seq h
  have : SZ = 16777216 := rfl
  omega
theorem mt_pop0 (ρ S H n a xs vs v S' Q) (hS : StR K ρ S H) (ha : ρ.ad[n]? = some a) (hv : VrL K H ρ xs vs) (h0 : vs = []) (hg : gPop (.o n) vs S = .ok v S') (hc : Cont K ρ H S' v Q) : rPop (.ref a) xs H Q := by
  subst h0
  cases hv
  simp only [gPop] at hg
  split at hg
  · rename_i ds el
    split at hg
    · rename_i d ed
      cases hg
      obtain ⟨zs, h3, h4⟩ := hS.lstAt ha el
      obtain ⟨g1, g2⟩ := put_lst hS ha el h4.dropLast
      obtain ⟨y, h5, h6⟩ := h4.get ed
      exact ⟨a, zs, y, rfl, rfl, h3, by rw [h4.length]; exact h5, hc _ _ _ g2 g1 (Vr.ext g2 (v := .d d) h6)⟩
    · cases hg
  · cases hg
theorem mt_pop1 (ρ S H n a xs vs v S' Q) (hS : StR K ρ S H) (ha : ρ.ad[n]? = some a) (hv : VrL K H ρ xs vs) (h1 : vs.length = 1) (hz : ∀ ds, lstOf S n = some ds → ds.length ≤ SZ) (hg : gPop (.o n) vs S = .ok v S') (hc : Cont K ρ H S' v Q) : rPopAt (.ref a) xs H Q := by
  simp only [gPop] at hg
  split at hg
  · rename_i ds el
    split at hg
    · cases h1
    · split at hg
      · rename_i i ei
        split at hg
        · rename_i j ej
          split at hg
          · rename_i d ed
            cases hg
            obtain ⟨x, rfl, hx⟩ := hv.one rfl
            cases intOf_rp hx ei
            obtain ⟨zs, h3, h4⟩ := hS.lstAt ha el
            obtain ⟨g1, g2⟩ := put_lst hS ha el (h4.eraseIdx j)
            obtain ⟨y, h5, h6⟩ := h4.get ed
            obtain ⟨b1, b2⟩ := ixN_bound (hz _ el) ej
            exact ⟨a, zs, i, j, y, rfl, rfl, h3, b1, b2, by rw [h4.length]; exact (ixN_seq ej).1, h5, hc _ _ _ g2 g1 (Vr.ext g2 (v := .d d) h6)⟩
          · cases hg
        · cases hg
      · cases hg
    · cases hg
  · cases hg
/-- xs.pop(i): the list is not too long -/
def gPop1 (x : Vl) : GL := fun vs S => match x with
  | .o n => match lstOf S n with
    | some ds => if ds.length ≤ SZ ∧ vs.length = 1 then gPop (.o n) vs S else .bad
    | none => .bad
  | _ => .bad
def gPop0 (x : Vl) : GL := fun vs S => match vs with
  | [] => gPop x [] S
  | _ => .bad
theorem mt_pop0' (ρ S H n a xs vs v S' Q) (hS : StR K ρ S H) (ha : ρ.ad[n]? = some a) (hv : VrL K H ρ xs vs) (hg : gPop0 (.o n) vs S = .ok v S') (hc : Cont K ρ H S' v Q) : rPop (.ref a) xs H Q := by
  unfold gPop0 at hg
  split at hg
  · exact mt_pop0 ρ S H n a xs _ v S' Q hS ha hv rfl hg hc
  · cases hg
theorem mt_pop1' (ρ S H n a xs vs v S' Q) (hS : StR K ρ S H) (ha : ρ.ad[n]? = some a) (hv : VrL K H ρ xs vs) (hg : gPop1 (.o n) vs S = .ok v S') (hc : Cont K ρ H S' v Q) : rPopAt (.ref a) xs H Q := by
  simp only [gPop1] at hg
  split at hg
  · rename_i ds el
    split at hg
    · rename_i hz
      exact mt_pop1 ρ S H n a xs vs v S' Q hS ha hv hz.2 (fun ds' e' => by rw [el] at e'; cases e'; exact hz.1) hg hc
    · cases hg
  · cases hg
theorem strs_rp {m : List Addr} : ∀ {ds : List PyData} {xs : List V} {ys : List Str}, RpL K H m xs ds → strsOf ds = some ys → xs = ys.map V.str ∧ ∀ y ∈ ys, PySem.PyData.strOk y = true
  | [], _, _, h, e => by cases h; cases e; exact ⟨rfl, fun _ h => by cases h⟩
  | d :: ds, _, ys, h, e => by
    cases h with
    | cons a b =>
      cases d with
      | str k =>
        obtain ⟨l, h1, h2⟩ := Option.map_eq_some_iff.mp (show (strsOf ds).map (k :: ·) = some ys from e)
        subst h2
        cases a with
        | str _ ok =>
          obtain ⟨e1, e2⟩ := strs_rp b h1
          refine ⟨by rw [e1]; rfl, fun y hy => ?_⟩
          rcases List.mem_cons.mp hy with rfl | hy
          · exact ok
          · exact e2 y hy
      | _ => cases e
theorem strOk_empty : PySem.PyData.strOk Str.empty = true := strOk_iff.mpr fun c hc => absurd hc (by simp [Str.empty])
theorem txt_join (a : Str) (ys : List Str) : Txt.join a ys = Str.join a ys := PySem.StrLaws.glued_eq_join a ys
theorem strOk_join {a : Str} (ha : PySem.PyData.strOk a = true) : ∀ {ys : List Str}, (∀ y ∈ ys, PySem.PyData.strOk y = true) → PySem.PyData.strOk (Str.join a ys) = true
  | [], _ => strOk_empty
  | [x], h => h x List.mem_cons_self
  | x :: y :: r, h => by
    show PySem.PyData.strOk (x ++ a ++ Str.join a (y :: r)) = true
    exact strOk_append (strOk_append (h x List.mem_cons_self) ha) (strOk_join ha fun z hz => h z (List.mem_cons_of_mem _ hz))
theorem met_s {g : Vl → GL} {RR : V → List V → Hp → VK → Prop} (h2 : ∀ ρ S H z xs vs v S' Q, StR K ρ S H → PySem.PyData.strOk z = true → VrL K H ρ xs vs → g (.d (.str z)) vs S = .ok v S' → Cont K ρ H S' v Q → RR (.str z) xs H Q)
    (h : LE K (sMetS g fo [fe]) σ H Q) : tM1 RR (LE K fo) (LE K fe) σ H Q := by
  obtain ⟨Γ, S, ρ, v, S', hS, hE, hf, hc⟩ := h
  obtain ⟨va, S1, e1, hf⟩ := R.bind_ok hf
  refine ⟨Γ, S, ρ, va, S1, hS, hE, e1, fun ρ1 H1 x x1 hS1 q1 => ?_⟩
  split at hf
  · rename_i z
    obtain ⟨vs, S2, e2, hf⟩ := R.bind_ok hf
    obtain ⟨w, S3, e3, e2⟩ := R.bind_ok e2
    cases e2
    cases (show Rp _ _ _ _ _ from q1) with
    | str _ ok =>
      refine ⟨⟨z, rfl⟩, Γ, S1, ρ1, w, _, hS1, hE.ext x1, e3, fun ρ2 H2 y x2 hS2 q2 => ?_⟩
      exact h2 ρ2 _ H2 z [y] [w] v S' Q hS2 ok (.cons q2 .nil) hf fun ρ3 H3 u x3 hS3 q3 => hc ρ3 H3 u ((x1.trans x2).trans x3) hS3 q3
  · cases hf
theorem mt_joinD (ρ S H z xs vs v S' Q) (hS : StR K ρ S H) (hz : PySem.PyData.strOk z = true) (hv : VrL K H ρ xs vs) (hg : gJoin (.d (.str z)) vs S = .ok v S') (hc : Cont K ρ H S' v Q) :
    ∃ a p, ∃ ys : List Str, V.str z = .str a ∧ xs = [.ref p] ∧ (SqL K.K H p (ys.map V.str) ∨ SqT K.K H p (ys.map V.str)) ∧ (ys.map (·.length)).sum + ys.length * a.length ≤ 16777216 ∧ Q (.str (Txt.join a ys)) H := by
  simp only [gJoin] at hg
  split at hg
  · rename_i w
    obtain ⟨x, rfl, hx⟩ := hv.one rfl
    split at hg
    · rename_i ds es
      split at hg
      · rename_i ys ey
        split at hg
        · rename_i hl
          cases hg
          obtain ⟨p, zs, rfl, h3, h4⟩ := sq_l hS hx es
          obtain ⟨rfl, h5⟩ := strs_rp h4 ey
          exact ⟨z, p, ys, rfl, rfl, .inl h3, hl, by rw [txt_join]; exact hc ρ H _ (Ext.refl hS) hS (show Rp _ _ _ _ _ from .str _ (strOk_join hz h5))⟩
        · cases hg
      · cases hg
    · rename_i ds es
      split at hg
      · rename_i ys ey
        split at hg
        · rename_i hl
          cases hg
          obtain ⟨_, p, zs, rfl, h3, h4⟩ := sq_t hx es
          obtain ⟨rfl, h5⟩ := strs_rp h4 ey
          exact ⟨z, p, ys, rfl, rfl, .inr h3, hl, by rw [txt_join]; exact hc ρ H _ (Ext.refl hS) hS (show Rp _ _ _ _ _ from .str _ (strOk_join hz h5))⟩
        · cases hg
      · cases hg
    · cases hg
  · cases hg
theorem mt_startsD (ρ S H z xs vs v S' Q) (hS : StR K ρ S H) (hz : PySem.PyData.strOk z = true) (hv : VrL K H ρ xs vs) (hg : gStarts (.d (.str z)) vs S = .ok v S') (hc : Cont K ρ H S' v Q) :
    ∃ a b, V.str z = .str a ∧ xs = [.str b] ∧ Q (.bl (Txt.startswith a b)) H := by
  simp only [gStarts] at hg
  split at hg
  · rename_i b
    cases hg
    obtain ⟨x, rfl, hx⟩ := hv.one rfl
    cases (show Rp _ _ _ _ _ from hx)
    exact ⟨z, b, rfl, rfl, hc ρ H _ (Ext.refl hS) hS (show Rp _ _ _ _ _ from .bl _)⟩
  · cases hg
/-- the written forms -/
structure M1 (X : Cx) (o e : Expr) (name : Str) (apos cpos : Pos) : Prop where
  base : attributeBase o name X.env (eval o X.env) = eval o X.env
  few : ((backTo cpos (starEach [e] X.env)).all (fun x => !x.1) && (backToKw cpos (keywordEach [] X.env)).all (fun x => x.1.isSome) && decide ([e].length + ([] : List Keyword).length + (if ([] : List Keyword).isEmpty then 0 else 1) < 30)) = true
  line : (apos.endLine == cpos.line) = true
  st : starEach [e] X.env = (false, eval e X.env) :: starEach [] X.env
  plain : (backTo cpos (starEach [] X.env)).any (·.1) = false
theorem le_append (f : M1 X o e "append" apos cpos) (ho : PE X o (LE X.F fo)) (he : PE X e (LE X.F fe)) : PE X (.Call (.Attribute o "append" apos) [e] [] cpos) (LE X.F (sMetO gAppend fo [fe])) :=
  (pe_bm PySem.F.plainAttrs_list PySem.F.slot_list_append PySem.F.type_list_append mt_append ho (la_cons he la_nil f.st) f.base f.few f.line f.st f.plain).weak fun σ H Q h => met_o mt_app h
theorem le_extend (f : M1 X o e "extend" apos cpos) (ho : PE X o (LE X.F fo)) (he : PE X e (LE X.F fe)) : PE X (.Call (.Attribute o "extend" apos) [e] [] cpos) (LE X.F (sMetO gExtend fo [fe])) :=
  (pe_bm PySem.F.plainAttrs_list PySem.F.slot_list_extend PySem.F.type_list_extend mt_extend ho (la_cons he la_nil f.st) f.base f.few f.line f.st f.plain).weak fun σ H Q h => met_o mt_ext h
theorem le_pop1 (f : M1 X o e "pop" apos cpos) (ho : PE X o (LE X.F fo)) (he : PE X e (LE X.F fe)) : PE X (.Call (.Attribute o "pop" apos) [e] [] cpos) (LE X.F (sMetO gPop1 fo [fe])) :=
  (pe_bm PySem.F.plainAttrs_list PySem.F.slot_list_pop PySem.F.type_list_pop mt_popAt ho (la_cons he la_nil f.st) f.base f.few f.line f.st f.plain).weak fun σ H Q h => met_o mt_pop1' h
theorem le_pop0 (hbase : attributeBase o "pop" X.env (eval o X.env) = eval o X.env) (hline : (apos.endLine == cpos.line) = true) (ho : PE X o (LE X.F fo)) : PE X (.Call (.Attribute o "pop" apos) [] [] cpos) (LE X.F (sMetO gPop0 fo [])) :=
  (pe_bm0 PySem.F.plainAttrs_list PySem.F.slot_list_pop PySem.F.type_list_pop mt_pop ho hbase hline).weak fun σ H Q h => by
    obtain ⟨Γ, S, ρ, va, S1, hS, hE, e1, h⟩ := met_o mt_pop0' h
    refine ⟨Γ, S, ρ, va, S1, hS, hE, e1, fun ρ1 H1 x x1 hS1 q1 => ?_⟩
    obtain ⟨ht, Γ', S', ρ', vs, S'', hS', hE', e2, h⟩ := h ρ1 H1 x x1 hS1 q1
    cases e2
    exact ⟨ht, h ρ' H1 [] (Ext.refl hS') hS' .nil⟩
theorem le_join (f : M1 X o e "join" apos cpos) (ho : PE X o (LE X.F fo)) (he : PE X e (LE X.F fe)) : PE X (.Call (.Attribute o "join" apos) [e] [] cpos) (LE X.F (sMetS gJoin fo [fe])) :=
  (pe_join ho he (by rw [f.st]; rfl) f.base f.line).weak fun σ H Q h => met_s mt_joinD h
theorem le_starts (f : M1 X o e "startswith" apos cpos) (ho : PE X o (LE X.F fo)) (he : PE X e (LE X.F fe)) : PE X (.Call (.Attribute o "startswith" apos) [e] [] cpos) (LE X.F (sMetS gStarts fo [fe])) :=
  (pe_m1 PySem.F.slot_str_startswith PySem.F.type_str_startswith mt_startswith ho he (by rw [f.st]; rfl) f.base f.line).weak fun σ H Q h => met_s mt_startsD h
end
end L2.Pv

set_option Elab.async false
set_option linter.all false
set_option maxRecDepth 100000
namespace L2.Pv
open PySem PySem.Spec PyProof.Rows L2

/-! ### more operations: lists of the store added, lists made to be changed, texts split -/
def lsV (S : Sto) : Vl → Option (List PyData)
  | .d (.list ds) => some ds
  | .o n => lstOf S n
  | _ => none
def addL (S : Sto) (x y : Option (List PyData)) : R Vl := match x with
  | some x => match y with
    | some y => if x.length + y.length ≤ SZ then .ok (.d (.list (x ++ y))) S else .bad
    | none => .bad
  | none => .bad
def gAdd : G2 := fun a b S => match a with
  | .d x => match b with
    | .d y => lft S (dAdd x y)
    | b => addL S (lsV S (.d x)) (lsV S b)
  | a => addL S (lsV S a) (lsV S b)
section
variable {X : Cx} {pins : List (Addr × Obj)} {σ : L2.St} {H : Hp} {s : Shared} {ρ : Pl} {S : Sto} {Q : VK} {K : Fg}
theorem fin_lstK (hS : StR K ρ S H) {xs : List V} {ds : List PyData} (q : RpL K H ρ.m xs ds) (hc : Cont K ρ H S (.d (.list ds)) Q) : ∀ p, H p = none → Q (.ref p) (upd H p (.lst xs)) := fun p hp => hc ρ _ _ (hS.fresh hp).2 (hS.fresh hp).1 (lstNew hS hp q)
theorem ls_rp (hS : StR K ρ S H) {v : Vl} {x : V} {ds : List PyData} (h : Vr K H ρ x v) (e : lsV S v = some ds) : ∃ a xs, x = .ref a ∧ H a = some (.lst xs) ∧ RpL K H ρ.m xs ds := by
  unfold lsV at e
  split at e
  · cases e
    cases (show Rp _ _ _ _ _ from h) with
    | lst ta qa => exact ⟨_, _, rfl, ta.1, qa⟩
  · obtain ⟨a, ha, rfl⟩ := h
    obtain ⟨xs, h1, h2⟩ := hS.lstAt ha e
    exact ⟨a, xs, rfl, h1, h2⟩
  · cases e
theorem addL_ok {x y : V} {va vb r : Vl} {S' : Sto} (hS : StR K ρ S H) (ha : Vr K H ρ x va) (hb : Vr K H ρ y vb) (h : addL S (lsV S va) (lsV S vb) = .ok r S') (hc : Cont K ρ H S' r Q) : rCat x y H Q := by
  unfold addL at h
  split at h
  · rename_i xs ea
    split at h
    · rename_i ys eb
      split at h
      · rename_i hz
        cases h
        obtain ⟨a, vs, rfl, h1, h2⟩ := ls_rp hS ha ea
        obtain ⟨b, us, rfl, h3, h4⟩ := ls_rp hS hb eb
        exact ⟨_, _, _, _, rfl, rfl, h1, h3, by rw [h2.length, h4.length, ← SZ_eq]; exact hz, fin_lstK hS (h2.append h4) hc⟩
      · cases h
    · cases h
  · cases h
theorem opd_gAdd : OpR X (binaryOp .Add) (rD X.F gAdd) := by
  intro pins s σ H x y v u Q I rx ry h
  obtain ⟨ρ, S, va, vb, r, S', hS, ha, hb, hg, hc⟩ := h
  cases va with
  | d a =>
    cases vb with
    | d b => exact opd_add pins s σ H x y v u Q I rx ry ⟨ρ, S, .d a, .d b, r, S', hS, ha, hb, hg, hc⟩
    | o n => exact op_cat pins s σ H x y v u Q I rx ry (addL_ok hS ha hb hg hc)
    | k ds => exact op_cat pins s σ H x y v u Q I rx ry (addL_ok hS ha hb hg hc)
  | o n => exact op_cat pins s σ H x y v u Q I rx ry (addL_ok hS ha hb hg hc)
  | k ds => exact op_cat pins s σ H x y v u Q I rx ry (addL_ok hS ha hb hg hc)
def gListN : G1 := fun a S => match sqOf S a with
  | some (.l ds) => .ok (.o S.length) (S ++ [.lst ds])
  | some (.t ds) => .ok (.o S.length) (S ++ [.lst ds])
  | none => .bad
theorem cd_listN : CallR X (.type "list") (rDL X.F (arg1 gListN)) := by
  intro pins s σ H xs us Q I rx h
  obtain ⟨x, ρ, S, va, r, S', rfl, hS, ha, hg, hc⟩ := rDL1 h
  unfold gListN at hg
  split at hg
  · rename_i ds e
    cases hg
    obtain ⟨a, xs, rfl, h2, h3⟩ := sq_l hS ha e
    exact call_list_of pins s σ H _ us Q I rx ⟨_, _, rfl, .inl h2, fin_new hS h3 hc⟩
  · rename_i ds e
    cases hg
    obtain ⟨_, a, xs, rfl, h2, h3⟩ := sq_t ha e
    exact call_list_of pins s σ H _ us Q I rx ⟨_, _, rfl, .inr h2, fin_new hS h3 hc⟩
  · cases hg
def gSplit (x : Vl) : GL := fun vs S => match x with
  | .d (.str a) => match vs with
    | [.d (.str b)] => if (b.length == 0) = false ∧ a.length + 2 ≤ SZ then .ok (.d (.list ((Txt.split a b).map .str))) S else .bad
    | _ => .bad
  | _ => .bad
theorem join_sub (sep : Str) : ∀ (ts : List Str) (t : Str), t ∈ ts → ∀ c ∈ t.cps.toList, c ∈ (Str.join sep ts).cps.toList
  | [x], t, h, c, hc => by
    rw [List.mem_singleton.mp h] at hc
    exact hc
  | x :: y :: r, t, h, c, hc => by
    have e : (Str.join sep (x :: y :: r)).cps.toList = x.cps.toList ++ sep.cps.toList ++ (Str.join sep (y :: r)).cps.toList := by
      show ((x.cps ++ sep.cps) ++ (Str.join sep (y :: r)).cps).toList = _
      simp
    rw [e]
    rcases List.mem_cons.mp h with rfl | h
    · exact List.mem_append_left _ (List.mem_append_left _ hc)
    · exact List.mem_append_right _ (join_sub sep (y :: r) t h c hc)
theorem split_ok {a b : Str} (ha : PySem.PyData.strOk a = true) : ∀ t ∈ Txt.split a b, PySem.PyData.strOk t = true := fun t ht =>
  strOk_sub ha fun c hc => by
    have h := join_sub b (Txt.split a b) t ht c hc
    rwa [PySem.StrLaws.join_split] at h
theorem strs_rpL {m : List Addr} : ∀ {ys : List Str}, (∀ y ∈ ys, PySem.PyData.strOk y = true) → RpL K H m (ys.map V.str) (ys.map PyData.str)
  | [], _ => .nil
  | y :: r, h => .cons (.str y (h y List.mem_cons_self)) (strs_rpL fun z hz => h z (List.mem_cons_of_mem _ hz))
theorem mt_splitD (ρ S H z xs vs v S' Q) (hS : StR K ρ S H) (hz : PySem.PyData.strOk z = true) (hv : VrL K H ρ xs vs) (hg : gSplit (.d (.str z)) vs S = .ok v S') (hc : Cont K ρ H S' v Q) :
    ∃ a b, V.str z = .str a ∧ xs = [.str b] ∧ (b.length == 0) = false ∧ a.length + 2 ≤ sizeLine ∧ rNewStrs (Txt.split a b) H Q := by
  simp only [gSplit] at hg
  split at hg
  · rename_i b
    obtain ⟨x, rfl, hx⟩ := hv.one rfl
    split at hg
    · rename_i hl
      cases hg
      cases (show Rp _ _ _ _ _ from hx) with
      | str _ ob => exact ⟨z, b, rfl, rfl, hl.1, by rw [← SZ_eq]; exact hl.2, fin_lstK hS (strs_rpL (split_ok hz)) hc⟩
    · cases hg
  · cases hg
theorem le_split {o e : Expr} {apos cpos : Pos} {fo fe : SE} (f : M1 X o e "split" apos cpos) (ho : PE X o (LE X.F fo)) (he : PE X e (LE X.F fe)) : PE X (.Call (.Attribute o "split" apos) [e] [] cpos) (LE X.F (sMetS gSplit fo [fe])) :=
  (pe_split ho he (by rw [f.st]; rfl) f.base f.line).weak fun σ H Q h => met_s mt_splitD h
/-- xs.index(x): lists -/
def sMetL (g : Vl → GL) (a : SE) (fs : List SE) : SE := fun Γ S => (a Γ S).bind fun x S1 => match lsV S1 x with
  | some _ => (sArgs fs Γ S1).bind fun vs S2 => g x vs S2
  | none => .bad
def gIndex (x : Vl) : GL := fun vs S => match lsV S x with
  | some ds => match vs with
    | [v] => match rdV S v with
      | some d => match ds.findIdx? (fun z => PyData.eqv z d) with
        | some j => if PyData.depth (.list ds) ≤ 64 ∧ d.depth ≤ 64 ∧ PyData.plainAll ds = true ∧ d.plain = true then .ok (.d (.int (j : Nat))) S else .bad
        | none => .bad
      | none => .bad
    | _ => .bad
  | none => .bad
theorem shaped_of {m : List Addr} {x : V} {d : PyData} (p : d.plain = true) (h : Rp K H m x d) (hd : d.depth ≤ 64) : SeqAt.shaped d = true := by
  unfold SeqAt.shaped
  rw [Rp.lay _ _ p h, decide_eq_true hd]
  rfl
theorem ls_rp0 (hS : StR K ρ S H) {v : Vl} {x : V} {ds : List PyData} (h : Vr K H ρ x v) (e : lsV S v = some ds) : Rp K H [] x (.list ds) := by
  obtain ⟨a, xs, rfl, h1, h2⟩ := ls_rp hS h e
  exact .lst ⟨h1, fun z => by cases z⟩ (RpL.cov (Cov.less (fun a z => by cases z)) _ _ h2)
theorem mt_indexV {vs : List Vl} {xs : List V} {v r : Vl} {x : V} {S' : Sto} (hS : StR K ρ S H) (hx : Vr K H ρ x v) (hv : VrL K H ρ xs vs) (hg : gIndex v vs S = .ok r S') (hc : Cont K ρ H S' r Q) : rIndexD K.K x xs H Q := by
  unfold gIndex at hg
  split at hg
  · rename_i ds el
    split at hg
    · rename_i w
      obtain ⟨y, rfl, hy⟩ := hv.one rfl
      split at hg
      · rename_i d ed
        split at hg
        · rename_i j ej
          split at hg
          · rename_i hz
            cases hg
            have h1 := ls_rp0 hS hx el
            have h2 := rdV_rp hS hy ed
            obtain ⟨a, zs, rfl, h3, h4⟩ := ls_rp hS hx el
            obtain ⟨f1, f2, f3⟩ := List.findIdx?_eq_some_iff_getElem.mp ej
            refine ⟨a, y, d, ds, j, ds[j], rfl, rfl, Rp.dp _ _ (by simpa [PyData.plain] using hz.2.2.1) h1, Rp.dp _ _ hz.2.2.2 h2, shaped_of (by simpa [PyData.plain] using hz.2.2.1) h1 hz.1, shaped_of hz.2.2.2 h2 hz.2.1, List.getElem?_eq_getElem f1, f2, fun m z' hm hz' => ?_, hc ρ H _ (Ext.refl hS) hS (show Rp _ _ _ _ _ from .int _)⟩
            have hml : m < ds.length := Nat.lt_trans hm f1
            rw [List.getElem?_eq_getElem hml] at hz'
            cases hz'
            have := f3 m hm
            simpa using this
          · cases hg
        · cases hg
      · cases hg
    · cases hg
  · cases hg
theorem le_index {o e : Expr} {apos cpos : Pos} {fo fe : SE} (hu : X.A.units + 65 < cLine) (f : M1 X o e "index" apos cpos) (ho : PE X o (LE X.F fo)) (he : PE X e (LE X.F fe)) : PE X (.Call (.Attribute o "index" apos) [e] [] cpos) (LE X.F (sMetL gIndex fo [fe])) :=
  (pe_bm PySem.F.plainAttrs_list PySem.F.slot_list_index PySem.F.type_list_index (mt_indexD hu) ho (la_cons he la_nil f.st) f.base f.few f.line f.st f.plain).weak fun σ H Q h => by
    obtain ⟨Γ, S, ρ, v, S', hS, hE, hf, hc⟩ := h
    obtain ⟨va, S1, e1, hf⟩ := R.bind_ok hf
    refine ⟨Γ, S, ρ, va, S1, hS, hE, e1, fun ρ1 H1 x x1 hS1 q1 => ?_⟩
    split at hf
    · rename_i ds el
      obtain ⟨vs, S2, e2, hf⟩ := R.bind_ok hf
      refine ⟨?_, Γ, S1, ρ1, vs, S2, hS1, hE.ext x1, e2, fun ρ2 H2 ys x2 hS2 q2 => ?_⟩
      · obtain ⟨a, zs, rfl, h3, h4⟩ := ls_rp hS1 q1 el
        exact .inl ⟨rfl, zs, .inl (.inl h3)⟩
      · exact mt_indexV hS2 (q1.ext x2) q2 hf fun ρ3 H3 u x3 hS3 q3 => hc ρ3 H3 u ((x1.trans x2).trans x3) hS3 q3
    · cases hf
/-- C.index(x), C a tuple of texts that the module holds -/
def gIndexC (ys : List Str) : G1 := fun v S => match v with
  | .d (.str z) => match ys.findIdx? (fun y => y == z) with
    | some j => .ok (.d (.int (j : Nat))) S
    | none => .bad
  | _ => .bad
theorem le_indexC {x : Str} {p apos cpos : Pos} {e : Expr} {fe : SE} {ds : List PyData} {ys : List Str} {u : Value} {v : V} (hg : Gl X x) (hm : X.mg x = some u) (hv : RelV v u) (hd : Rp X.F HN [] v (.tuple ds)) (hs : strsOf ds = some ys) (o1 : (x == ("__debug__" : Str)) = false) (f : M1 X (.Name x p) e "index" apos cpos) (he : PE X e (LE X.F fe)) : PE X (.Call (.Attribute (.Name x p) "index" apos) [e] [] cpos) (LE X.F (sUn (gIndexC ys) fe)) := by
  cases hd with
  | tup ta qa =>
    obtain ⟨rfl, _⟩ := strs_rp qa hs
    rcases ta with ⟨o, _, h, _⟩ | ⟨o, its, n, h1, h2, h3, h4, h5, h6⟩
    · cases h
    · refine (pe_bm PySem.F.plainAttrs_tuple PySem.F.slot_tuple_index PySem.F.type_tuple_index mt_tup_index (pe_glob hg hm hv o1) (la_cons he la_nil f.st) f.base f.few f.line f.st f.plain).weak fun σ H Q h => ?_
      refine ⟨.inr (.inl ⟨rfl, o, h1, h2, h3⟩), ?_⟩
      obtain ⟨Γ, S, ρ, v, S', hS, hE, hf, hc⟩ := h
      obtain ⟨va, S1, e1, hf⟩ := R.bind_ok hf
      refine ⟨Γ, S, ρ, [va], S1, hS, hE, by simp only [sArgs, R.bind, e1], fun ρ1 H1 xs x1 hS1 q1 => ?_⟩
      obtain ⟨y, rfl, hy⟩ := VrL.one q1 rfl
      unfold gIndexC at hf
      split at hf
      · rename_i z
        split at hf
        · rename_i j ej
          cases hf
          obtain ⟨f1, f2, f3⟩ := List.findIdx?_eq_some_iff_getElem.mp ej
          cases (show Rp _ _ _ _ _ from hy) with
          | str _ ok =>
            refine ⟨_, ys, z, j, rfl, rfl, .inr ⟨o, its, n, h1, h2, h4, h5, h6⟩, ?_, fun m hm hz => ?_, hc ρ1 H1 _ x1 hS1 (show Rp _ _ _ _ _ from .int _)⟩
            · rw [List.getElem?_eq_getElem f1, eq_of_beq f2]
            · have hml : m < ys.length := Nat.lt_trans hm f1
              rw [List.getElem?_eq_getElem hml] at hz
              have := f3 m hm
              rw [Option.some.inj hz] at this
              exact this (beq_self_eq_true _)
        · cases hf
      · cases hf
end
end L2.Pv

set_option Elab.async false
set_option linter.all false
set_option maxRecDepth 100000
/-! Pv: a tuple, a list, from the end: t[::-1] -/
namespace PySem
open PySem PySem.Spec PyProof.Rows L2 HT
section
variable {prog : Program} {w : World} {A : Around} {E : Value → Shared → Prop} {s : Shared}
theorem pv_back_parts {sl : Addr} {vl vu vs : Value} {n : Nat} {Q : Int × Int × Nat → Shared → Prop} (hs : s.heap.IsSliceOf sl vl vu vs) (pl : IsPart vl none) (pu : IsPart vu none) (ps : IsPart vs (some (-1)))
    (h : Q ((n : Int) - 1, -1, n) s) : wpAny (model prog w) A (Builtin.Slice.sliceApplied (.ref sl) (pure (n : Int))) Q E s := by
  obtain ⟨ob, hob, hcl, hda⟩ := id hs
  unfold Builtin.Slice.sliceApplied Builtin.Slice.sliceFields
  refine wpAny_bind (wpAny_bind (wpAny_field hob hda (x := vl) rfl (wpAny_bind (wpAny_field hob hda (x := vu) rfl (wpAny_bind (wpAny_field hob hda (x := vs) rfl (wpAny_pure ?_)))))))
  refine wpAny_bind (slicePart_ ps ?_)
  show wpAny _ _ (if ((-1 : Int) == 0) = true then _ else _) _ _ s
  rw [if_neg (by decide)]
  refine wpAny_bind (slicePart_ pl (wpAny_bind (slicePart_ pu (wpAny_bind (wpAny_pure ?_)))))
  show wpAny _ _ (pure ((n : Int) - 1, (-1 : Int), Builtin.Slice.slicePlaces ((n : Int) - 1) (-1) (-1))) _ _ s
  have e : Builtin.Slice.slicePlaces ((n : Int) - 1) (-1) (-1) = n := by
    unfold Builtin.Slice.slicePlaces
    rw [if_neg (by decide)]
    by_cases hn : (n : Int) - 1 > -1
    · rw [if_pos hn, show (-(-1) : Int) = 1 from rfl, Int.ediv_one]
      omega
    · rw [if_neg hn]
      omega
  rw [e]
  exact wpAny_pure h
theorem pv_back_items (xs : Array Value) : ((List.range xs.size).filterMap fun (m : Nat) => xs[((xs.size : Int) - 1 + (m : Int) * -1).toNat]?) = xs.toList.reverse := by
  have gen : ∀ k, k ≤ xs.size → ((List.range k).filterMap fun (m : Nat) => xs[((xs.size : Int) - 1 + (m : Int) * -1).toNat]?) = xs.toList.reverse.take k := by
    intro k
    induction k with
    | zero => intro _; rfl
    | succ k ih =>
      intro hk
      have hk' : k < xs.size := hk
      rw [List.range_succ, List.filterMap_append, ih (by omega)]
      have e1 : ((xs.size : Int) - 1 + (k : Int) * -1).toNat = xs.size - 1 - k := by omega
      have e2 : xs[xs.size - 1 - k]? = some xs[xs.size - 1 - k] := Array.getElem?_eq_getElem (by omega)
      have e3 : xs.toList.reverse[k]? = some xs[xs.size - 1 - k] := by
        rw [List.getElem?_reverse (by simpa using hk')]
        simp
      rw [List.take_add_one, e3]
      simp only [List.filterMap_cons, List.filterMap_nil, e1, e2, Option.toList]
  rw [gen xs.size (Nat.le_refl _), List.take_of_length_le (by simp)]
theorem pv_back_get {t sl : Addr} {items : Array Value} {vl vu vs : Value} {Q : Value → Shared → Prop} (ht : IsTup s.heap t items) (hs : s.heap.IsSliceOf sl vl vu vs) (pl : IsPart vl none) (pu : IsPart vu none) (ps : IsPart vs (some (-1)))
    (h : Q (.ref s.heap.objs.size) { s with heap := s.heap.push { cls := .type "tuple", data := .seq items.toList.reverse.toArray } })
    (hsz : items.size ≤ sizeLine) : wpAny (model prog w) A (getItem (.ref t) (.ref sl)) Q E s := by
  have hfit : sizeOk (.seq items.toList.reverse.toArray) := by
    show items.toList.reverse.toArray.size ≤ sizeLine
    rw [List.size_toArray, List.length_reverse, Array.length_toList]
    exact hsz
  obtain ⟨ob, hob, hcl, hda⟩ := id hs
  have hty : s.TypeIs (.ref sl) "slice" := ⟨ob, hob, hcl⟩
  unfold getItem
  try with_reducible refine wpAny_holding ?_
  first | refine wpAny_bind (wpAny_pure ?_) | skip
  refine wpAny_bind (wpAny_sequenceKey ht.typeIs (by decide) ?_)
  refine wpAny_bind (wpAny_callSpecial?_slot (name := Str.ofString "__getitem__") ht.typeIs PyProof.Rows.slot_tuple_getitem (wpAny_call_entry PyProof.Rows.slot_tuple_getitem ht.typeIs entry_tuple_getitem ?_ (args_tuple_getitem _ _)))
  show wpAny _ _ (Builtin.Tuple.tupleItemsOf (.ref t) >>= _) _ _ s
  refine wpAny_bind (tupleItemsOf_ ht ?_)
  refine wpAny_bind (wpAny_typeOf hty ?_)
  rw [if_pos (by decide)]
  refine wpAny_bind (pv_back_parts hs pl pu ps ?_)
  have hno : ¬ (((items.size : Int) - 1 == 0 && (-1 : Int) == 1 && items.size == items.size) = true) := by
    intro q
    rw [Bool.and_eq_true, Bool.and_eq_true] at q
    exact absurd q.1.2 (by decide)
  show wpAny _ _ (if ((items.size : Int) - 1 == 0 && (-1 : Int) == 1 && items.size == items.size) = true then _ else _) _ _ s
  rw [if_neg hno, pv_back_items]
  first
    | exact wpAny_bind (m := Builtin.Tuple.tupleExact _) (wpAny_newObj_type (wpAny_pure ⟨_, rfl, wpAny_pure h⟩) hfit)
    | exact wpAny_bind (m := Builtin.Tuple.tupleExact _) (wpAny_newObj_type (wpAny_bind (wpAny_pure (wpAny_pure ⟨_, rfl, wpAny_pure h⟩))) hfit)
    | exact wpAny_bind (wpAny_bind (m := Builtin.Tuple.tupleExact _) (wpAny_newObj_type (wpAny_pure (wpAny_pure ⟨_, rfl, wpAny_pure h⟩)) hfit))
    | exact wpAny_bind (wpAny_bind (m := Builtin.Tuple.tupleExact _) (wpAny_newObj_type (wpAny_pure ⟨_, rfl, wpAny_pure h⟩) hfit))
end
end PySem
namespace L2
open PySem PySem.Spec PyProof.Rows L2
/-- t[::-1] -/
def tBack (K : PySem.W.Frag) (te : TE) : TE := fun σ H Q => te σ H fun x H1 => ∃ a xs, x = .ref a ∧ SqT K H1 a xs ∧ ∀ p o, Pv.TF o → H1 p = none → Q (.ref p) (upd H1 p (.frz o (.tup xs.reverse)))
theorem pe_back {X : Cx} {e : Expr} {te : TE} {k : Nat} {p1 p2 p3 pos : Pos} (he : PE X e te) : PE X (.Subscript e (.Slice none none (some (.UnaryOp .USub (.Constant (.int 1) k p1) p2)) p3) pos) (tBack X.K te) := by
  refine ⟨fun pins s σ H Q I hh => ?_⟩
  refine Subscript_ (thn (he.run pins s σ H _ I hh) fun v w1 ⟨x, H1, I1, r1, g1⟩ => ?_)
  obtain ⟨a, xs, rfl, hx, g⟩ := g1
  cases r1
  have hstep : PO X (some (.UnaryOp .USub (.Constant (.int 1) k p1) p2)) (tPart (tUn (rU fun i => .int (-i)) (tC (.int 1)))) := po_some (pe_un un_neg pe_int)
  refine wpAny_Slice (thn (po_none.run pins w1 σ H1 (fun o H2 => o = none ∧ H2 = H1) I1 ⟨rfl, rfl⟩) fun vl w2 ⟨l, H2, I2, pl, el, e2⟩ => ?_)
  subst el e2
  refine thn (po_none.run pins w2 σ H2 (fun o H3 => o = none ∧ H3 = H2) I2 ⟨rfl, rfl⟩) fun vu w3 ⟨u, H3, I3, pu, eu, e3⟩ => ?_
  subst eu e3
  refine thn (hstep.run pins w3 σ H3 (fun o H4 => o = some (-1) ∧ H4 = H3) I3 ⟨1, rfl, -1, rfl, rfl, rfl⟩) fun vs w4 ⟨o, H4, I4, ps, eo, e4⟩ => ?_
  subst eo e4
  have J : Inv X pins σ H4 { w4 with heap := w4.heap.push { cls := .type "slice", data := .fields #[vl, vu, vs] } } := I4.kept (t' := w4.toks) fun b ob q => Heap.get?_push_of_some _ q
  obtain ⟨its, r, ht, hz⟩ := J.tuple hx
  have hlen := r.length
  show wpAny (model X.prog X.w) X.A (subscriptTail e (.Slice none none (some (.UnaryOp .USub (.Constant (.int 1) k p1) p2)) p3) (.ref a) (.ref w4.heap.objs.size)) (EP X pins σ Q) X.xe { w4 with heap := w4.heap.push { cls := .type "slice", data := .fields #[vl, vu, vs] } }
  refine tail_any (ops := [.ref a, .ref w4.heap.objs.size]) ht.typeIs PyProof.Rows.slot_tuple_getitem.lookup ?_ (by with_unfolding_all rfl)
  refine PySem.pv_back_get ht (Heap.IsSliceOf.new _ vl vu vs) pl pu ps ?_ (by rw [List.size_toArray]; omega)
  refine ⟨.ref _, _, J.laid (t' := w4.toks) (o := .frz _ (.tup xs.reverse)) (fun b ob q => Heap.get?_push_of_some _ q) (Nat.le_refl _) ⟨Heap.get?_push_size _ rfl, by rw [List.length_reverse]; exact hz, _, r.reverse, _, Heap.get?_push_size _ rfl, rfl, 0, rfl⟩, rfl, g _ _ ⟨rfl, rfl⟩ (J.hok.fresh (Nat.le_refl _))⟩
end L2
namespace L2.Pv
open PySem PySem.Spec PyProof.Rows L2
def gBack : G1 := fun v S => match v with
  | .d (.tuple ds) => .ok (.d (.tuple ds.reverse)) S
  | _ => .bad
theorem RpL.back {K : Fg} {H : Hp} {m : List Addr} {ds : List PyData} {vs : List V} (h : RpL K H m vs ds) : RpL K H m vs.reverse ds.reverse := by
  have gen : ∀ {ds : List PyData} {vs : List V} {es : List PyData} {us : List V}, RpL K H m vs ds → RpL K H m us es → RpL K H m (vs.reverse ++ us) (ds.reverse ++ es) := by
    intro ds
    induction ds with
    | nil =>
      intro vs es us h1 h2
      cases h1
      exact h2
    | cons d ds ih =>
      intro vs es us h1 h2
      cases h1 with
      | cons a b =>
        rw [List.reverse_cons, List.reverse_cons, List.append_assoc, List.append_assoc]
        exact ih b (.cons a h2)
  have := gen h .nil
  rwa [List.append_nil, List.append_nil] at this
theorem le_back {X : Cx} {e : Expr} {fe : SE} {k : Nat} {p1 p2 p3 pos : Pos} (he : PE X e (LE X.F fe)) : PE X (.Subscript e (.Slice none none (some (.UnaryOp .USub (.Constant (.int 1) k p1) p2)) p3) pos) (LE X.F (sUn gBack fe)) :=
  (pe_back he).weak fun σ H Q h => le_one (RR := fun x H1 Q => ∃ a xs, x = .ref a ∧ SqT X.K H1 a xs ∧ ∀ p o, Pv.TF o → H1 p = none → Q (.ref p) (upd H1 p (.frz o (.tup xs.reverse)))) (fun x H Q ⟨ρ, S, va, r, S', hS, hv, hg, hc⟩ => by
    unfold gBack at hg
    split at hg
    · cases hg
      cases (show Rp _ _ _ _ _ from hv) with
      | tup ta qa => exact ⟨_, _, rfl, ta.sq, fin_tup hS qa.back hc⟩
    · cases hg) h
end L2.Pv

set_option Elab.async false
set_option linter.all false
set_option maxRecDepth 100000
/-! Pv: methods of dicts, new dicts, sorted -/
namespace L2.Pv
open PySem PySem.Spec PyProof.Rows L2

/-! ### methods of dicts -/
section
variable {X : Cx} {o e : Expr} {es : List Expr} {to : TE} {t : TA} {name : Str} {apos cpos : Pos} {T id : String} {r : V → List V → Hp → VK → Prop}
def tBMx (P : V → Hp → Prop) (r : V → List V → Hp → VK → Prop) (to : TE) (t : TA) : TE := fun σ H Q => to σ H fun x H1 => P x H1 ∧ t σ H1 fun xs H2 => r x xs H2 Q
theorem pe_bmx {P : V → Hp → Prop} (hP : ∀ pins σ H s x v, Inv X pins σ H s → RelV x v → P x H → s.TypeIs v T ∧ ∀ a, v = .ref a → ∃ ob, s.heap.get? a = some ob ∧ ob.dict = none) (pa : PlainAttrs T) (slot : Slot T name id) (hty : typeOf (.builtin id) = pure (.type "method_descriptor")) (hm : MtR X id r) (ho : PE X o to) (ha : PA X (e :: es) t)
    (hbase : attributeBase o name X.env (eval o X.env) = eval o X.env)
    (hfew : ((backTo cpos (starEach (e :: es) X.env)).all (fun x => !x.1) && (backToKw cpos (keywordEach [] X.env)).all (fun x => x.1.isSome)
      && decide ((e :: es).length + ([] : List Keyword).length + (if ([] : List Keyword).isEmpty then 0 else 1) < 30)) = true)
    (hline : (apos.endLine == cpos.line) = true) (hs : starEach (e :: es) X.env = (false, eval e X.env) :: starEach es X.env) (hplain : (backTo cpos (starEach es X.env)).any (·.1) = false) :
    PE X (.Call (.Attribute o name apos) (e :: es) [] cpos) (tBMx P r to t) := by
  refine ⟨fun pins s σ H Q I h => ?_⟩
  refine wpAny_Call_method_late hbase hfew hline rfl (thn (ho.run pins s σ H _ I h) fun v s1 ⟨x, H1, I1, r1, ty, q1⟩ => ?_)
  obtain ⟨h1, h2⟩ := hP _ _ _ _ _ _ I1 r1 ty
  refine ⟨T, id, pa, slot, hty, h1, h2, ?_⟩
  have hA := ha.run cpos pins s1 σ H1 _ I1 q1
  rw [hs] at hA ⊢
  refine Calls.callWith_builtin (by show (false || (backTo cpos (starEach es X.env)).any (·.1)) = false; rw [hplain] <;> rfl) (Calls.evalArgs_plain ?_)
  exact thn hA fun us s2 ⟨vs, H2, I2, r2, q2⟩ => hm pins s2 σ H2 x vs v us Q I2 r1 r2 q2
end
def isDO (x : V) (H : Hp) : Prop := ∃ a es ep, x = .ref a ∧ H a = some (dO a es ep)
theorem isDO_ty {X : Cx} (pins : List (Addr × Obj)) (σ : L2.St) (H : Hp) (s : Shared) (x : V) (v : Value) (I : Inv X pins σ H s) (rx : RelV x v) (h : isDO x H) : s.TypeIs v "dict" ∧ ∀ a, v = .ref a → ∃ ob, s.heap.get? a = some ob ∧ ob.dict = none := by
  obtain ⟨a, es, ep, rfl, h⟩ := h
  obtain ⟨h1, h2, o, h3, h4, h5⟩ := dO_in I h
  cases rx
  exact ⟨⟨o, h3, h4.1⟩, fun b e => by cases e; exact ⟨o, h3, h4.2.1⟩⟩
def sMetD (g : Vl → GL) (a : SE) (fs : List SE) : SE := fun Γ S => (a Γ S).bind fun x S1 => match dcV S1 x with
  | some _ => (sArgs fs Γ S1).bind fun vs S2 => g x vs S2
  | none => .bad
def gGet (x : Vl) : GL := fun vs S => match dcV S x with
  | some kds => match vs with
    | [.d k] => if kindB kds k = true then .ok (.d ((dLook kds k).getD .none)) S else .bad
    | [.d k, v] => if kindB kds k = true then match dLook kds k with
        | some y => .ok (.d y) S
        | none => .ok v S
      else .bad
    | _ => .bad
  | none => .bad
/-- d.setdefault(k, v): v data -/
def gSetd (x : Vl) : GL := fun vs S => match x with
  | .o n => match dctOf S n with
    | some kds => match vs with
      | [.d k, .d v] => if kindB kds k = true ∧ kds.length < SZ then match dLook kds k with
          | some y => .ok (.d y) S
          | none => .ok (.d v) (S.set n (.dct (dPut kds k v)))
        else .bad
      | _ => .bad
    | none => .bad
  | _ => .bad
section
variable {X : Cx} {K : Fg} {H : Hp} {σ : L2.St} {Q : VK} {fo : SE} {fs : List SE}
theorem met_d {g : Vl → GL} (h : LE X.F (sMetD g fo fs) σ H Q) : tBMx isDO (rDM X.F g) (LE X.F fo) (LA X.F (sArgs fs)) σ H Q := by
  obtain ⟨Γ, S, ρ, v, S', hS, hE, hf, hc⟩ := h
  obtain ⟨va, S1, e1, hf⟩ := R.bind_ok hf
  refine ⟨Γ, S, ρ, va, S1, hS, hE, e1, fun ρ1 H1 x x1 hS1 q1 => ?_⟩
  split at hf
  · rename_i kds el
    obtain ⟨vs, S2, e2, hf⟩ := R.bind_ok hf
    obtain ⟨a, rfl, ok, es, ep, h1, h2⟩ := dc_rp hS1 q1 el
    refine ⟨⟨a, es, ep, rfl, h1⟩, Γ, S1, ρ1, vs, S2, hS1, hE.ext x1, e2, fun ρ2 H2 ys x2 hS2 q2 => ?_⟩
    exact ⟨ρ2, S2, va, vs, v, S', hS2, q1.ext x2, q2, hf, fun ρ3 H3 z x3 hS3 q3 => hc ρ3 H3 z ((x1.trans x2).trans x3) hS3 q3⟩
  · cases hf
theorem mt_get (hu : X.A.units + 64 < cLine) : MtR X "dict.get" (rDM X.F gGet) := by
  intro pins s σ H x xs v us Q I rx rxs ⟨ρ, S, va, vs, r, S', hS, hx, hv, hg, hc⟩
  unfold gGet at hg
  split at hg
  · rename_i kds ed
    obtain ⟨a, rfl, D⟩ := dc_rp hS hx ed
    cases rx
    split at hg
    · rename_i k
      split at hg
      · rename_i hk
        cases hg
        obtain ⟨y, rfl, hy⟩ := hv.one rfl
        obtain ⟨u, rfl, ru⟩ := vals1 rxs
        exact dd_get1 hu I D hk hy ru fun w' s' z I' rz hz => ⟨z, H, I', rz, hc.here hS hz⟩
      · cases hg
    · rename_i k w
      split at hg
      · rename_i hk
        obtain ⟨y, z, rfl, hy, hz⟩ := hv.two rfl
        obtain ⟨u1, u2, rfl, ru1, ru2⟩ := vals2 rxs
        refine dd_get2 hu I D hk hy ru1 ru2 (fun vd w' s' z' hl I' rz hz' => ?_) fun s' hl I' => ?_
        · rw [hl] at hg
          cases hg
          exact ⟨z', H, I', rz, hc.here hS hz'⟩
        · rw [hl] at hg
          cases hg
          exact ⟨z, H, I', ru2, hc.here hS hz⟩
      · cases hg
    · cases hg
  · cases hg
theorem all_few {pos : Pos} {env : PySem.Env} {es : List Expr} (h : (backTo pos (starEach es env)).any (·.1) = false) (hl : es.length < 30) : ((backTo pos (starEach es env)).all (fun x => !x.1) && (backToKw pos (keywordEach [] env)).all (fun x => x.1.isSome)
      && decide (es.length + ([] : List Keyword).length + (if ([] : List Keyword).isEmpty then 0 else 1) < 30)) = true := by
  have h1 : (backTo pos (starEach es env)).all (fun x => !x.1) = true := by
    rw [List.any_eq_false] at h
    rw [List.all_eq_true]
    intro x hx
    have := h x hx
    simpa using this
  rw [h1]
  show (true && (backToKw pos (keywordEach [] env)).all (fun x => x.1.isSome) && decide (es.length + 0 + 0 < 30)) = true
  rw [decide_eq_true (by omega)]
  rfl
theorem le_get {o a : Expr} {es : List Expr} {apos cpos : Pos} (hu : X.A.units + 64 < cLine) (hb : attributeBase o "get" X.env (eval o X.env) = eval o X.env) (hl : (apos.endLine == cpos.line) = true) (hs : starEach (a :: es) X.env = (false, eval a X.env) :: starEach es X.env) (hp : (backTo cpos (starEach es X.env)).any (·.1) = false) (hp2 : (backTo cpos (starEach (a :: es) X.env)).any (·.1) = false) (h30 : (a :: es).length < 30)
    (ho : PE X o (LE X.F fo)) (ha : PA X (a :: es) (LA X.F (sArgs fs))) : PE X (.Call (.Attribute o "get" apos) (a :: es) [] cpos) (LE X.F (sMetD gGet fo fs)) :=
  (pe_bmx isDO_ty PySem.F.plainAttrs_dict PySem.F.slot_dict_get PySem.F.type_dict_get (mt_get hu) ho ha hb (all_few hp2 h30) hl hs hp).weak fun σ H Q h => met_d h
end

/-! ### new dicts -/
/-- {} as data; {} that will change -/
def sDct0 : SE := fun _ S => .ok (.d (.dict [])) S
def sDctN : SE := fun _ S => .ok (.o S.length) (S ++ [.dct []])
theorem kvs_nil : KvsOk [] := ⟨(fun p hp => nomatch hp), .inl (fun p hp => nomatch hp), List.nodup_nil⟩
section
variable {X : Cx} {pos : Pos}
def tDNew : TE := fun _ H Q => ∀ p, H p = none → Q (.ref p) (upd H p (dO p [] 0))
theorem pe_dnew : PE X (.Dict [] [] pos) tDNew := ⟨fun pins s σ H Q I h =>
  wpAny_Dict_empty ⟨.ref s.heap.objs.size, _, I.laid (a := s.heap.objs.size) (o := dO s.heap.objs.size [] 0) (t' := s.toks) (fun _ _ q => Heap.get?_push_of_some _ q) (Nat.le_refl _) (dd_new I 0), rfl, h _ (I.hok.fresh (Nat.le_refl _))⟩⟩
theorem le_dct0 : PE X (.Dict [] [] pos) (LE X.F sDct0) := pe_dnew.weak fun σ H Q ⟨Γ, S, ρ, v, S', hS, hE, hf, hc⟩ p hp => by
  cases hf
  exact hc ρ _ _ (hS.fresh hp).2 (hS.fresh hp).1 (show Rp _ _ _ _ _ from .dct upd_same (hS.notin hp) kvs_nil .nil)
theorem le_dctN : PE X (.Dict [] [] pos) (LE X.F sDctN) := pe_dnew.weak fun σ H Q ⟨Γ, S, ρ, v, S', hS, hE, hf, hc⟩ p hp => by
  cases hf
  obtain ⟨h1, h2⟩ := hS.alloc (u := .dct []) hp ⟨Pl.more_mem, [], 0, upd_same, kvs_nil, .nil⟩
  exact hc _ _ _ h2 h1 ⟨p, hS.at, rfl⟩
end

/-! ### sorted -/
def leD (a b : PyData) : Bool := !PySem.W.dataLt b a
def tupB : PyData → Bool
  | .tuple (_ :: _) => true
  | _ => false
def othB : PyData → Bool
  | .tuple _ => false
  | .none => false
  | _ => true
def sortB (ds : List PyData) : Bool := ds.all (fun a => ds.all fun b => PySem.W.alike a b) && (ds.all tupB || ds.all othB) && ds.all (fun d => decide (d.depth ≤ 60)) && decide (ds.length ≤ SZ) && PyData.plainAll ds
def gSort : G1 := fun a S => match sqOf S a with
  | some (.l ds) => if sortB ds = true then .ok (.d (.list (ds.mergeSort leD))) S else .bad
  | _ => .bad
theorem sort_keys {ds : List PyData} (h : sortB ds = true) : PySem.W.AllAlike ds ∧ PySem.W.Sortable ds ∧ (∀ d ∈ ds, d.depth ≤ 60) ∧ ds.length ≤ SZ ∧ PyData.plainAll ds = true := by
  unfold sortB at h
  simp only [Bool.and_eq_true, Bool.or_eq_true, List.all_eq_true, decide_eq_true_eq] at h
  obtain ⟨⟨⟨⟨h1, h2⟩, h3⟩, h4⟩, h5⟩ := h
  refine ⟨fun d hd d' hd' => h1 d hd d' hd', ?_, h3, h4, h5⟩
  rcases h2 with h2 | h2
  · refine .inl fun d hd => ?_
    have := h2 d hd
    revert this
    cases d with
    | tuple l => cases l with
      | nil => intro z; cases z
      | cons x r => exact fun _ => ⟨x, r, rfl⟩
    | _ => intro z; cases z
  · refine .inr fun d hd => ?_
    have := h2 d hd
    refine ⟨fun z => ?_, fun xs z => ?_⟩ <;> (rw [z] at this; cases this)
theorem plain_mem : ∀ {ds : List PyData}, PyData.plainAll ds = true → ∀ d ∈ ds, d.plain = true
  | d :: ds, h, e, he => by
    have h' : d.plain = true ∧ PyData.plainAll ds = true := by simpa [PyData.plainAll] using h
    rcases List.mem_cons.mp he with rfl | he
    · exact h'.1
    · exact plain_mem h'.2 e he
theorem each_of_paired {α β : Type} {F : α → β → Prop} {G : β → α → Prop} (f : ∀ a b, F a b → G b a) : ∀ {l : List α} {r : List β}, Paired F l r → PySem.W.EachIs G r l
  | _, _, .nil => .nil
  | _, _, .cons h t => .cons (f _ _ h) (each_of_paired f t)
theorem paired_of_each {α β : Type} {F : α → β → Prop} {G : β → α → Prop} (f : ∀ a b, G b a → F a b) : ∀ {r : List β} {l : List α}, PySem.W.EachIs G r l → Paired F l r
  | _, _, .nil => .nil
  | _, _, .cons h t => .cons (f _ _ h) (paired_of_each f t)
/-- what is told of the items: the value, what it shows -/
theorem cd_sorted {X : Cx} (hu : X.A.units + 64 < cLine) : CallR X (.builtin "sorted") (rDL X.F (arg1 gSort)) := by
  intro pins s σ H xs us Q I rx h
  obtain ⟨x, ρ, S, va, r, S', rfl, hS, ha, hg, hc⟩ := rDL1 h
  unfold gSort at hg
  split at hg
  · rename_i ds e
    split at hg
    · rename_i hb
      cases hg
      obtain ⟨a, zs, rfl, h2, h3⟩ := sq_l hS ha e
      obtain ⟨u, rfl, ru⟩ := vals1 rx
      cases ru
      obtain ⟨k1, k2, k3, k4, k5⟩ := sort_keys hb
      obtain ⟨its, rv, hl, hz⟩ := I.list h2
      -- the items: V and data
      have hlen := h3.length
      have hlen2 := rv.length
      let bs : List (V × PyData) := zs.zip ds
      have hbs : bs.map (·.2) = ds := by rw [List.map_snd_zip]; omega
      have rel : PySem.W.EachIs (fun (v : Value) (b : V × PyData) => RelV b.1 v ∧ Rp X.F H ρ.m b.1 b.2) its bs := by
        have gen : ∀ (zs : List V) (ds : List PyData) (its : List Value), Vals zs its → RpL X.F H ρ.m zs ds → PySem.W.EachIs (fun (v : Value) (b : V × PyData) => RelV b.1 v ∧ Rp X.F H ρ.m b.1 b.2) its (zs.zip ds) := by
          intro zs
          induction zs with
          | nil => intro ds its hv hr; cases hv; cases hr; exact .nil
          | cons z zs ih =>
            intro ds its hv hr
            cases hv with
            | cons a b =>
              cases hr with
              | cons c d => exact .cons ⟨a, c⟩ (ih _ _ b d)
        exact gen zs ds its rv h3
      have er : PySem.W.EachIs (fun (v : Value) (b : V × PyData) => ∃ as, Reads s.heap v b.2 as) its bs := by
        have hp : ∀ b ∈ bs, b.2.plain = true := fun b hb => plain_mem k5 b.2 (by rw [← hbs]; exact List.mem_map.mpr ⟨b, hb, rfl⟩)
        have gen : ∀ {its : List Value} {bs : List (V × PyData)}, (∀ b ∈ bs, b.2.plain = true) → PySem.W.EachIs (fun (v : Value) (b : V × PyData) => RelV b.1 v ∧ Rp X.F H ρ.m b.1 b.2) its bs → PySem.W.EachIs (fun (v : Value) (b : V × PyData) => ∃ as, Reads s.heap v b.2 as) its bs := by
          intro its bs hp h
          induction h with
          | nil => exact .nil
          | cons a b ih => exact .cons (rd_reads I (hp _ List.mem_cons_self) a.2 a.1) (ih fun b hb => hp b (List.mem_cons_of_mem _ hb))
        exact gen hp rel
      have hlb : bs.length = ds.length := by show (zs.zip ds).length = _; rw [List.length_zip]; omega
      refine PySem.W.sorted_data (vs := its) (bs := bs) (enc := fun b => b.2) hl.isList rel er (by rw [hbs]; exact k1) (by rw [hbs]; exact k2) (by rw [hlb, ← SZ_eq]; exact k4) (fun b hb => ?_) fun out ho hout => ?_
      · have := k3 b.2 (by rw [← hbs]; exact List.mem_map.mpr ⟨b, hb, rfl⟩)
        show X.A.units + 2 + b.2.depth < cLine
        omega
      · obtain ⟨ep, he⟩ := PyProof.Rows.sortedAll_at s.heap its out.toArray
        have hm : (bs.mergeSort (PySem.W.dataLe false fun b => b.2)).map (·.2) = ds.mergeSort leD := by
          rw [← hbs]
          exact List.map_mergeSort fun a _ b _ => by rw [PySem.W.dataLe_eq]; rfl
        have hv : Vals ((bs.mergeSort (PySem.W.dataLe false fun b => b.2)).map (·.1)) out := by
          have gen : ∀ {out : List Value} {bs : List (V × PyData)}, PySem.W.EachIs (fun (v : Value) (b : V × PyData) => RelV b.1 v ∧ Rp X.F H ρ.m b.1 b.2) out bs → Vals (bs.map (·.1)) out := by
            intro out bs h
            induction h with
            | nil => exact .nil
            | cons a b ih => exact .cons a.1 ih
          exact gen hout
        have hr : RpL X.F H ρ.m ((bs.mergeSort (PySem.W.dataLe false fun b => b.2)).map (·.1)) (ds.mergeSort leD) := by
          rw [← hm]
          have gen : ∀ {out : List Value} {bs : List (V × PyData)}, PySem.W.EachIs (fun (v : Value) (b : V × PyData) => RelV b.1 v ∧ Rp X.F H ρ.m b.1 b.2) out bs → RpL X.F H ρ.m (bs.map (·.1)) (bs.map (·.2)) := by
            intro out bs h
            induction h with
            | nil => exact .nil
            | cons a b ih => exact .cons a.2 ih
          exact gen hout
        refine ⟨.ref _, upd H (s.heap.objs.size + 1) (.lst ((bs.mergeSort (PySem.W.dataLe false fun b => b.2)).map (·.1))), I.laid (t' := s.toks) (fun _ _ => PyProof.Rows.sortedAll_old) (Nat.le_succ _) ⟨?_, out, ep, hv, he⟩, rfl, fin_lst hS hr hc _ (I.hok.fresh (Nat.le_succ _))⟩
        rw [hr.length, List.length_mergeSort, ← SZ_eq]
        exact k4
    · cases hg
  · cases hg
/-! ### sum, max, min of a list of ints -/
def intsOf : List PyData → Option (List Int)
  | [] => some []
  | .int i :: r => (intsOf r).map (i :: ·)
  | _ :: _ => none
theorem ints_rp {K : Fg} {H : Hp} {m : List Addr} : ∀ {ds : List PyData} {xs : List V} {bs : List Int}, RpL K H m xs ds → intsOf ds = some bs → xs = bs.map V.int
  | [], _, _, h, e => by cases h; cases e; rfl
  | d :: ds, _, bs, h, e => by
    cases h with
    | cons a b =>
      cases d with
      | int k =>
        obtain ⟨l, h1, h2⟩ := Option.map_eq_some_iff.mp (show (intsOf ds).map (k :: ·) = some bs from e)
        subst h2
        cases a
        rw [ints_rp b h1]
        rfl
      | _ => cases e
def gSum : G1 := fun a S => match sqOf S a with
  | some (.l ds) => match intsOf ds with
    | some bs => .ok (.d (.int bs.sum)) S
    | none => .bad
  | _ => .bad
def gMax1 : G1 := fun a S => match sqOf S a with
  | some (.l ds) => match intsOf ds with
    | some (n :: ns) => .ok (.d (.int (ns.foldl max n))) S
    | _ => .bad
  | _ => .bad
def gMin1 : G1 := fun a S => match sqOf S a with
  | some (.l ds) => match intsOf ds with
    | some (n :: ns) => .ok (.d (.int (ns.foldl min n))) S
    | _ => .bad
  | _ => .bad
theorem foldl_max : ∀ (ns : List Int) (n : Int), ns.foldl max n ∈ n :: ns ∧ ∀ y ∈ n :: ns, y ≤ ns.foldl max n
  | [], n => ⟨List.mem_cons_self, fun y hy => by rw [List.mem_singleton.mp hy]; exact Int.le_refl _⟩
  | m :: ns, n => by
    obtain ⟨h1, h2⟩ := foldl_max ns (max n m)
    rw [List.foldl_cons]
    have h3 := h2 (max n m) List.mem_cons_self
    refine ⟨?_, fun y hy => ?_⟩
    · rcases List.mem_cons.mp h1 with e | e
      · rw [e]
        rcases Int.le_total n m with q | q
        · rw [Int.max_eq_right q]; exact List.mem_cons_of_mem _ List.mem_cons_self
        · rw [Int.max_eq_left q]; exact List.mem_cons_self
      · exact List.mem_cons_of_mem _ (List.mem_cons_of_mem _ e)
    · rcases List.mem_cons.mp hy with rfl | hy
      · omega
      · rcases List.mem_cons.mp hy with rfl | hy
        · omega
        · exact h2 y (List.mem_cons_of_mem _ hy)
theorem foldl_min : ∀ (ns : List Int) (n : Int), ns.foldl min n ∈ n :: ns ∧ ∀ y ∈ n :: ns, ns.foldl min n ≤ y
  | [], n => ⟨List.mem_cons_self, fun y hy => by rw [List.mem_singleton.mp hy]; exact Int.le_refl _⟩
  | m :: ns, n => by
    obtain ⟨h1, h2⟩ := foldl_min ns (min n m)
    rw [List.foldl_cons]
    have h3 := h2 (min n m) List.mem_cons_self
    refine ⟨?_, fun y hy => ?_⟩
    · rcases List.mem_cons.mp h1 with e | e
      · rw [e]
        rcases Int.le_total n m with q | q
        · rw [Int.min_eq_left q]; exact List.mem_cons_self
        · rw [Int.min_eq_right q]; exact List.mem_cons_of_mem _ List.mem_cons_self
      · exact List.mem_cons_of_mem _ (List.mem_cons_of_mem _ e)
    · rcases List.mem_cons.mp hy with rfl | hy
      · omega
      · rcases List.mem_cons.mp hy with rfl | hy
        · omega
        · exact h2 y (List.mem_cons_of_mem _ hy)
section
variable {X : Cx}
theorem cd_sum (hc : X.calm = true) : CallR X (.builtin "sum") (rDL X.F (arg1 gSum)) := by
  intro pins s σ H xs us Q I rx h
  obtain ⟨x, ρ, S, va, r, S', rfl, hS, ha, hg, hc'⟩ := rDL1 h
  unfold gSum at hg
  split at hg
  · rename_i ds e
    split at hg
    · rename_i bs eb
      cases hg
      obtain ⟨a, xs, rfl, h2, h3⟩ := sq_l hS ha e
      have e3 := ints_rp h3 eb
      subst e3
      exact cr_sum hc pins s σ H _ us Q I rx ⟨_, _, rfl, h2, hc'.here hS (show Rp _ _ _ _ _ from .int _)⟩
    · cases hg
  · cases hg
theorem cd_max1 (hc : X.calm = true) : CallR X (.builtin "max") (rDL X.F (arg1 gMax1)) := by
  intro pins s σ H xs us Q I rx h
  obtain ⟨x, ρ, S, va, r, S', rfl, hS, ha, hg, hc'⟩ := rDL1 h
  unfold gMax1 at hg
  split at hg
  · rename_i ds e
    split at hg
    · rename_i n ns eb
      cases hg
      obtain ⟨a, xs, rfl, h2, h3⟩ := sq_l hS ha e
      have e3 := ints_rp h3 eb
      subst e3
      refine cr_max hc pins s σ H _ us Q I rx ⟨_, _, rfl, h2, Nat.succ_pos _, fun m hm hy => ?_⟩
      obtain ⟨f1, f2⟩ := foldl_max ns n
      have : m = ns.foldl max n := Int.le_antisymm (f2 m hm) (hy _ f1)
      rw [this]
      exact hc'.here hS (show Rp _ _ _ _ _ from .int _)
    · cases hg
  · cases hg
theorem cd_min1 (hc : X.calm = true) : CallR X (.builtin "min") (rDL X.F (arg1 gMin1)) := by
  intro pins s σ H xs us Q I rx h
  obtain ⟨x, ρ, S, va, r, S', rfl, hS, ha, hg, hc'⟩ := rDL1 h
  unfold gMin1 at hg
  split at hg
  · rename_i ds e
    split at hg
    · rename_i n ns eb
      cases hg
      obtain ⟨a, xs, rfl, h2, h3⟩ := sq_l hS ha e
      have e3 := ints_rp h3 eb
      subst e3
      refine cr_min hc pins s σ H _ us Q I rx ⟨_, _, rfl, h2, Nat.succ_pos _, fun m hm hy => ?_⟩
      obtain ⟨f1, f2⟩ := foldl_min ns n
      have : m = ns.foldl min n := Int.le_antisymm (hy _ f1) (f2 m hm)
      rw [this]
      exact hc'.here hS (show Rp _ _ _ _ _ from .int _)
    · cases hg
  · cases hg
end
end L2.Pv

set_option Elab.async false
set_option linter.all false
set_option maxRecDepth 100000
namespace L2.Pv
open PySem PySem.Spec PyProof.Rows L2

/-! ### defs -/
def finO (keep : Bool) (n : Nat) (S : Sto) : Option Ob → R Vl
  | some (.lst ds) => if keep = true then .ok (.o n) (S.take n ++ [.lst ds]) else .ok (.d (.list ds)) (S.take n)
  | some (.dct kds) => if keep = true then .ok (.o n) (S.take n ++ [.dct kds]) else .ok (.d (.dict kds)) (S.take n)
  | _ => .bad
def fin (keep : Bool) (n : Nat) (v : Vl) (S : Sto) : R Vl := match v with
  | .d d => .ok (.d d) (S.take n)
  | .k _ => .bad
  | .o m => if m < n then .ok (.o m) (S.take n) else finO keep n S S[m]?
section
variable {P : Program} {w : World} {K : Fg} {mg : Str → Option Value} {base : Heap} {ρ ρ' : Pl} {S S1 S' : Sto} {H H' : Hp}
/-- the new objects are gone -/
def Pl.back (ρ ρ' : Pl) (new : List Addr) : Pl := ⟨ρ.ad, ρ'.m.filter fun b => decide (b ∉ new)⟩
theorem back_mem {b : Addr} {new : List Addr} : b ∈ (Pl.back ρ ρ' new).m ↔ b ∈ ρ'.m ∧ b ∉ new := by
  show b ∈ ρ'.m.filter _ ↔ _
  rw [List.mem_filter]
  simp
theorem back_ok {new : List Addr} (hS : StR K ρ S H) (hx : Ext ρ H ρ' H') (hS1 : StR K ρ' S1 H') (e : ρ'.ad = ρ.ad ++ new) (hn : ∀ a ∈ new, H a = none) :
    Ext ρ H (Pl.back ρ ρ' new) H' ∧ StR K (Pl.back ρ ρ' new) (S1.take S.length) H' ∧ Cov ρ'.m H' (Pl.back ρ ρ' new).m H' := by
  have hl := hS.len
  have cv : Cov ρ'.m H' (Pl.back ρ ρ' new).m H' := Cov.less fun b hb => (back_mem.mp hb).1
  have nd := hS1.nd
  rw [e, List.nodup_append] at nd
  refine ⟨⟨⟨[], by simp [Pl.back], by simp⟩, hx.keep, fun a o ea hna hm => hx.out a o ea hna (back_mem.mp hm).1, fun a ha hna => ⟨back_mem.mpr ⟨(hx.stay a ha hna).1, fun z => (hx.stay a ha hna).2 (by rw [e]; exact List.mem_append_right _ z)⟩, hna⟩, hx.trk⟩,
    ⟨hS.nd, fun a ha => hS1.tk a (back_mem.mp ha).1, fun a ha => hx.trk a (hS.tka a ha), ?_⟩, cv⟩
  have := pairedTake S.length hS1.all
  rw [e, List.take_append_of_le_length (by omega), List.take_of_length_le (by omega)] at this
  exact pairedMono this fun a p ha q => q.cov cv rfl fun z => back_mem.mpr ⟨z, fun y => nd.2.2 a ha a y rfl⟩
/-- all but one of them -/
def Pl.back1 (ρ ρ' : Pl) (new : List Addr) (a : Addr) : Pl := ⟨ρ.ad ++ [a], ρ'.m.filter fun b => decide (b ∉ new ∨ b = a)⟩
theorem back1_mem {b a : Addr} {new : List Addr} : b ∈ (Pl.back1 ρ ρ' new a).m ↔ b ∈ ρ'.m ∧ (b ∉ new ∨ b = a) := by
  show b ∈ ρ'.m.filter _ ↔ _
  rw [List.mem_filter]
  simp
theorem back1_ok {new : List Addr} {a : Addr} {p : Ob} (hS : StR K ρ S H) (hx : Ext ρ H ρ' H') (hS1 : StR K ρ' S1 H') (e : ρ'.ad = ρ.ad ++ new) (hn : ∀ a ∈ new, H a = none) (ham : a ∈ new) (hp : ObR K H' ρ'.m a p) (hpm : a ∈ ρ'.m) :
    Ext ρ H (Pl.back1 ρ ρ' new a) H' ∧ StR K (Pl.back1 ρ ρ' new a) (S1.take S.length ++ [p]) H' := by
  have hl := hS.len
  have cv : Cov ρ'.m H' (Pl.back1 ρ ρ' new a).m H' := Cov.less fun b hb => (back1_mem.mp hb).1
  have nd := hS1.nd
  rw [e, List.nodup_append] at nd
  have haρ : a ∉ ρ.ad := fun z => nd.2.2 a z a ham rfl
  refine ⟨⟨⟨[a], rfl, fun b hb => by rw [List.mem_singleton.mp hb]; exact hn a ham⟩, hx.keep, fun b o ea hna hm => hx.out b o ea hna (back1_mem.mp hm).1, fun b hb hna => ⟨back1_mem.mpr ⟨(hx.stay b hb hna).1, .inl fun z => (hx.stay b hb hna).2 (by rw [e]; exact List.mem_append_right _ z)⟩, fun hm => ?_⟩, hx.trk⟩,
    ⟨?_, fun b hb => hS1.tk b (back1_mem.mp hb).1, fun b hb => ?_, pairedAppend ?_ (.cons (hp.cov cv rfl fun z => back1_mem.mpr ⟨z, .inr rfl⟩) .nil)⟩⟩
  · rcases List.mem_append.mp hm with hm | hm
    · exact hna hm
    · rw [List.mem_singleton.mp hm] at hb
      exact hS.tk a hb (hn a ham)
  · show (ρ.ad ++ [a]).Nodup
    rw [List.nodup_append]
    refine ⟨hS.nd, by simp, fun b hb c hc z => ?_⟩
    rw [List.mem_singleton.mp hc] at z
    rw [z] at hb
    exact haρ hb
  · rcases List.mem_append.mp hb with hb | hb
    · exact hx.trk b (hS.tka b hb)
    · rw [List.mem_singleton.mp hb]
      exact hS1.tk a hpm
  · have := pairedTake S.length hS1.all
    rw [e, List.take_append_of_le_length (by omega), List.take_of_length_le (by omega)] at this
    exact pairedMono this fun b p hb q => q.cov cv rfl fun z => back1_mem.mpr ⟨z, .inl fun y => nd.2.2 b hb b y rfl⟩
theorem fin_ok {keep : Bool} {v r : Vl} {x : V} (hS : StR K ρ S H) (hx : Ext ρ H ρ' H') (hS1 : StR K ρ' S1 H') (hv : Vr K H' ρ' x v) (h : fin keep S.length v S1 = .ok r S') :
    ∃ ρ2, Ext ρ H ρ2 H' ∧ StR K ρ2 S' H' ∧ Vr K H' ρ2 x r := by
  obtain ⟨new, e, hn⟩ := hx.pre
  have hl := hS.len
  obtain ⟨e1, s1, cv⟩ := back_ok hS hx hS1 e hn
  cases v with
  | d d =>
    cases h
    exact ⟨_, e1, s1, Rp.cov cv _ _ hv⟩
  | k ds => cases h
  | o m =>
    obtain ⟨a, ha, rfl⟩ := hv
    simp only [fin] at h
    split at h
    · rename_i hm
      cases h
      refine ⟨_, e1, s1, a, ?_, rfl⟩
      rw [e, List.getElem?_append_left (by omega)] at ha
      exact ha
    · rename_i hm
      have ham : a ∈ new := by
        rw [e, List.getElem?_append_right (by omega)] at ha
        exact List.mem_of_getElem? ha
      have hat : (Pl.back1 ρ ρ' new a).ad[S.length]? = some a := by
        show (ρ.ad ++ [a])[S.length]? = some a
        rw [← hl, List.getElem?_append_right (Nat.le_refl _), Nat.sub_self]
        rfl
      have hnm : a ∉ (Pl.back ρ ρ' new).m := fun z => (back_mem.mp z).2 ham
      unfold finO at h
      split at h
      · rename_i ds el
        have ho := hS1.get ha el
        obtain ⟨hm1, xs, h3, h4⟩ := id ho
        split at h
        · cases h
          obtain ⟨e2, s2⟩ := back1_ok hS hx hS1 e hn ham ho hm1
          exact ⟨_, e2, s2, a, hat, rfl⟩
        · cases h
          exact ⟨_, e1, s1, (show Rp _ _ _ _ _ from .lst ⟨h3, hnm⟩ (RpL.cov cv _ _ h4))⟩
      · rename_i kds el
        have ho := hS1.get ha el
        obtain ⟨hm1, es, ep, h3, h4, h5⟩ := id ho
        split at h
        · cases h
          obtain ⟨e2, s2⟩ := back1_ok hS hx hS1 e hn ham ho hm1
          exact ⟨_, e2, s2, a, hat, rfl⟩
        · cases h
          exact ⟨_, e1, s1, (show Rp _ _ _ _ _ from .dct h3 hnm h4 (RpD.cov cv _ _ h5))⟩
      · cases h
/-- what an expression has made goes, its value stays as data -/
def sFr (e : SE) : SE := fun Γ S => (e Γ S).bind fun v S1 => fin false S.length v S1
theorem fr_le {f : SE} {σ : L2.St} {Q : VK} (h : LE K (sFr f) σ H Q) : LE K f σ H Q := by
  obtain ⟨Γ, S, ρ, v, S', hS, hE, hf, hc⟩ := h
  obtain ⟨v1, S1, e1, hf⟩ := R.bind_ok hf
  refine ⟨Γ, S, ρ, v1, S1, hS, hE, e1, fun ρ1 H1 x hx hS1 hv => ?_⟩
  obtain ⟨ρ2, g1, g2, g3⟩ := fin_ok (keep := false) hS hx hS1 hv hf
  exact hc ρ2 H1 x g1 g2 g3
end
end L2.Pv

set_option Elab.async false
set_option linter.all false
set_option maxRecDepth 100000
/-! Pv: {k: v}; a < b < c; list(range(n)); a, b, c = x, y, z -/
namespace L2.Pv
open PySem PySem.Spec PyProof.Rows L2
section
variable {X : Cx} {pins : List (Addr × Obj)} {σ : L2.St} {H : Hp} {s : Shared} {m : List Addr} {a : Addr} {es : List DictEntry} {ep : Nat} {kds : Kvs} {kd : PyData} {x : V} {u : Value} {A : Around} {E : Value → Shared → Prop}
theorem dd_dictSet {Q : Unit → Shared → Prop} {y : V} {r : Value} {vd : PyData} (hu : A.units + 64 < cLine) (I : Inv X pins σ H s) (D : DctAt X.F H m a kds) (hk : kindB kds kd = true) (hl : kds.length < sizeLine) (hx : Rp X.F H m x kd) (rx : RelV x u) (ry : RelV y r) (hy : Rp X.F H m y vd)
    (h : ∀ es' ep' s', RpD X.F H m es' (dPut kds kd vd) → Inv X pins σ (upd H a (dO a es' ep')) s' → Q () s') : wpAny (model X.prog X.w) A (dictSet a u r) Q E s := by
  have hd := (D.typeIs I).2.2
  obtain ⟨ok, es, ep, ha, hr⟩ := D
  obtain ⟨k1, k2⟩ := kind_of ok hk
  have mu : Mut (H a) := by rw [ha]; exact True.intro
  have fin : ∀ {es' : List DictEntry} {ep' : Nat} {h' : Heap} {t' : Nat} {o : Obj}, RpD X.F H m es' (dPut kds kd vd) → Heap.SameBut a s.heap h' → h'.get? a = some o → o.ExactDict → o.data = .dict es'.toArray ep' → Q () { s with heap := h', toks := t' } := fun {es' ep' h' t' o} q1 q2 q3 q4 q5 => by
    refine h es' ep' _ q1 (d_write I mu q2 ⟨o, q3⟩ (dO_ok hd ?_ q3 q4 q5))
    have := put_len (kds := kds) (kd := kd) (vd := vd)
    rw [q1.length]
    omega
  rcases k2 with ⟨e, k2⟩ | ⟨e, k2⟩
  · obtain ⟨b, k, rfl, rfl, e2, his⟩ := tup_key I e k1 hx rx
    obtain ⟨xs, h1, h2, h3⟩ := dct_H I ok k2 ha hr
    refine wpAny_dictSet_heap (knd := nestedKind X.prog X.w) (hsz := h3) (show A.units + 8 < cLine by omega) his h2 fun h' dd' hs => ?_
    obtain ⟨o, es', ep', q1, q2, q3, q4, _, _⟩ := dd'
    exact fin (es' := es'.toList) (xr_back (P := X.prog) (xr_put e2 hx ry hy h1) |> fun z => by rw [q4]; exact z) hs q1 q2 (by rw [Array.toArray_toList]; exact q3)
  · obtain ⟨k, rfl, e2, his⟩ := lf_key e k1 hx rx
    obtain ⟨vs, h1, h2, h3⟩ := dct_L I ok k2 ha hr
    refine wpAny_dictSet_pairs (hsz := h3) his h2 fun h' dd' hs => ?_
    obtain ⟨o, es', ep', q1, q2, q3, q4, q5, _⟩ := dd'
    exact fin (es' := es'.toList) (lr_back (P := X.prog) (lr_put e2 hx ry hy h1) q5 fun e he => q4 e (by simpa using he)) hs q1 q2 (by rw [Array.toArray_toList]; exact q3)
end
/-- {k: v} that will change -/
def sDct1 (fk fv : SE) : SE := fun Γ S => (fk Γ (S ++ [.dct []])).bind fun kv S1 => (fv Γ S1).bind fun vv S2 => match kv with
  | .d kd => match vv with
    | .d vd => match dctOf S2 S.length with
      | some [] => if keyB kd = true then .ok (.o S.length) (S2.set S.length (.dct [(kd, vd)])) else .bad
      | _ => .bad
    | _ => .bad
  | _ => .bad
/-- {k: v} as data -/
def sChain (g1 g2 : G2) (a b c : SE) : SE := fun Γ S => (a Γ S).bind fun x S1 => (b Γ S1).bind fun y S2 => (g1 x y S2).bind fun z S3 => match boolOf z with
  | some true => (c Γ S3).bind fun u S4 => g2 y u S4
  | some false => .ok (.d (.bool false)) S3
  | none => .bad
def sLrg (a : SE) : SE := fun Γ S => (a Γ S).bind fun v S1 => match intOf v with
  | some j => if -(2 ^ 62) ≤ j ∧ j ≤ 16777216 then .ok (.d (.list (rngIts 0 j.toNat))) S1 else .bad
  | none => .bad
/-- l + m, a list that will change -/
def gAddN : G2 := fun a b S => match lsV S a with
  | some x => match lsV S b with
    | some y => if x.length + y.length ≤ SZ then .ok (.o S.length) (S ++ [.lst (x ++ y)]) else .bad
    | none => .bad
  | none => .bad
theorem opd_gAddN {X : Cx} : OpR X (binaryOp .Add) (rD X.F gAddN) := by
  intro pins s σ H x y v u Q I rx ry h
  obtain ⟨ρ, S, va, vb, r, S', hS, ha, hb, hg, hc⟩ := h
  unfold gAddN at hg
  split at hg
  · rename_i xs ea
    split at hg
    · rename_i ys eb
      split at hg
      · rename_i hz
        cases hg
        obtain ⟨a, vs, rfl, h1, h2⟩ := ls_rp hS ha ea
        obtain ⟨b, us, rfl, h3, h4⟩ := ls_rp hS hb eb
        exact op_cat pins s σ H _ _ v u Q I rx ry ⟨_, _, _, _, rfl, rfl, h1, h3, by rw [h2.length, h4.length, ← SZ_eq]; exact hz, fin_new hS (h2.append h4) hc⟩
      · cases hg
    · cases hg
  · cases hg
def sPar3 (i j l : Nat) (a b c : SE) : SS := fun Γ S => (a Γ S).bind fun u S1 => (b Γ S1).bind fun v S2 => (c Γ S2).bind fun w S3 => .ok (.nx (((Γ.set i (some u)).set j (some v)).set l (some w))) S3
section
variable {X : Cx} {a b c : Expr} {fa fb fc : SE} {pos : Pos} {st : Stmt}
theorem dct1_ok {kv vv v : Vl} {S2 S' : Sto} {n : Nat} (hf : (match kv with
  | .d kd => match vv with
    | .d vd => match dctOf S2 n with
      | some [] => if keyB kd = true then R.ok (Vl.o n) (S2.set n (.dct [(kd, vd)])) else R.bad
      | _ => R.bad
    | _ => R.bad
  | _ => (R.bad : R Vl)) = R.ok v S') : ∃ kd vd, kv = .d kd ∧ vv = .d vd ∧ dctOf S2 n = some [] ∧ keyB kd = true ∧ v = .o n ∧ S' = S2.set n (.dct [(kd, vd)]) := by
  split at hf
  · split at hf
    · split at hf
      · rename_i ed
        split at hf
        · rename_i hk
          cases hf
          exact ⟨_, _, rfl, rfl, ed, hk, rfl, rfl⟩
        · cases hf
      · cases hf
    · cases hf
  · cases hf
theorem le_dct1 (hu : X.A.units + 64 < cLine) (ha : PE X a (LE X.F fa)) (hb : PE X b (LE X.F fb)) : PE X (.Dict [some a] [b] pos) (LE X.F (sDct1 fa fb)) := ⟨fun pins s σ H Q I ⟨Γ, S, ρ, v, S', hS, hE, hf, hc⟩ => by
  obtain ⟨kv, S1, h1, hf⟩ := R.bind_ok hf
  obtain ⟨vv, S2, h2, hf⟩ := R.bind_ok hf
  obtain ⟨kd, vd, rfl, rfl, ed, hk, rfl, rfl⟩ := dct1_ok hf
  have hp : H s.heap.objs.size = none := I.hok.fresh (Nat.le_refl _)
  have hsh : (evalEachOpt [some a] X.env).zip ((evalEach [b] X.env).map fun v => do let x ← v; standAt pos; pure x) = ([(eval a X.env, do let x ← eval b X.env; standAt pos; pure x)] : List (Sem Value × Sem Value)).map fun p => (some p.1, p.2) := rfl
  rw [arm_eval_Dict, hsh, dictDisplay_pairs _ (by simp) (by simp)]
  refine wpAny_bind (wpAny_standAt (wpAny_bind ?_))
  unfold subDict
  refine wpAny_bind (wpAny_alloc (wpAny_bind (wpAny_holding ?_)))
  rw [if_pos (by simp)]
  have I0 : Inv X pins σ (upd H s.heap.objs.size (dO s.heap.objs.size [] 0)) { s with heap := s.heap.push { cls := .type "dict", data := .dict #[] } } := I.laid (a := s.heap.objs.size) (o := dO s.heap.objs.size [] 0) (t' := s.toks) (fun _ _ q => Heap.get?_push_of_some _ q) (Nat.le_refl _) (dd_new I 0)
  obtain ⟨g1, g2⟩ := hS.alloc (u := .dct []) hp ⟨Pl.more_mem, [], 0, upd_same, kvs_nil, .nil⟩
  have A1 : LE X.F fa σ (upd H s.heap.objs.size (dO s.heap.objs.size [] 0)) fun x H1 => ∃ ρ1, Ext (ρ.more s.heap.objs.size) (upd H s.heap.objs.size (dO s.heap.objs.size [] 0)) ρ1 H1 ∧ StR X.F ρ1 S1 H1 ∧ Vr X.F H1 ρ1 x (.d kd) := ⟨Γ, _, _, .d kd, S1, g1, hE.ext g2, h1, fun ρ1 H1 x e s v => ⟨ρ1, e, s, v⟩⟩
  refine wpAny_bind (evalPairs_cons (thn (ha.run pins _ σ _ _ I0 A1) fun u s1 ⟨x, H1, I1, rx, ρ1, e1, hS1, q1⟩ => ?_))
  have A2 : LE X.F fb σ H1 fun y H2 => ∃ ρ2, Ext ρ1 H1 ρ2 H2 ∧ StR X.F ρ2 S2 H2 ∧ Vr X.F H2 ρ2 y (.d vd) := ⟨Γ, _, _, .d vd, S2, hS1, (hE.ext g2).ext e1, h2, fun ρ2 H2 y e s v => ⟨ρ2, e, s, v⟩⟩
  refine wpAny_bind (thn (hb.run pins s1 σ H1 _ I1 A2) fun w s2 ⟨y, H2, I2, ry, ρ2, e2, hS2, q2⟩ => wpAny_bind (wpAny_standAt (wpAny_pure (evalPairs_nil (wpAny_holding ?_)))))
  replace q1 := q1.ext e2
  have hat : ρ2.ad[S.length]? = some s.heap.objs.size := e2.ad (e1.ad (by rw [← hS.len]; exact Pl.more_at))
  obtain ⟨hm, D⟩ := hS2.dctAt hat ed
  rw [List.forIn_cons]
  refine wpAny_bind (wpAny_bind ?_)
  show wpAny _ _ (do dictSet s.heap.objs.size u w; pure (ForInStep.yield PUnit.unit)) _ _ _
  refine wpAny_bind (dd_dictSet hu I2 D (by unfold kindB; rw [hk]; rfl) (show 0 < sizeLine by decide) q1 rx ry q2 fun es' ep' s' hr I' => wpAny_pure ?_)
  show wpAny _ _ (forIn _ _ _) _ _ _
  rw [List.forIn_nil]
  have cv : Cov ρ2.m H2 ρ2.m (upd H2 s.heap.objs.size (dO s.heap.objs.size es' ep')) := ⟨fun b u hb hn => by rw [upd_ne (fun q => hn (by rw [q]; exact hm))]; exact hb, fun _ _ _ n => n⟩
  have hkv : dPut [] kd vd = [(kd, vd)] := rfl
  rw [hkv] at hr
  have ok : KvsOk [(kd, vd)] := by
    have := put_ok (vd := vd) D.1 (kd := kd) (by unfold kindB; rw [hk]; rfl)
    rwa [hkv] at this
  obtain ⟨g3, g4⟩ := hS2.put (o := dO s.heap.objs.size es' ep') (p := .dct [(kd, vd)]) hat hm ⟨hm, es', ep', upd_same, ok, RpD.cov cv _ _ hr⟩
  exact wpAny_pure (wpAny_pure (wpAny_pure (wpAny_pure ⟨.ref s.heap.objs.size, _, I', rfl, hc ρ2 _ _ (((g2.trans e1).trans e2).trans g4) g3 ⟨s.heap.objs.size, hat, rfl⟩⟩)))⟩
theorem ch_le {g1 g2 : G2} {K : Fg} {σ : L2.St} {H : Hp} {Q : VK} (h : LE K (sChain g1 g2 fa fb fc) σ H Q) : tChain (rD K g1) (rD K g2) (LE K fa) (LE K fb) (LE K fc) σ H Q := by
  obtain ⟨Γ, S, ρ, v, S', hS, hE, hf, hc⟩ := h
  obtain ⟨va, S1, h1, hf⟩ := R.bind_ok hf
  obtain ⟨vb, S2, h2, hf⟩ := R.bind_ok hf
  obtain ⟨vz, S3, h3, hf⟩ := R.bind_ok hf
  refine ⟨Γ, S, ρ, va, S1, hS, hE, h1, fun ρ1 H1 x x1 hS1 q1 => ?_⟩
  refine ⟨Γ, S1, ρ1, vb, S2, hS1, hE.ext x1, h2, fun ρ2 H2 y x2 hS2 q2 => ?_⟩
  refine ⟨ρ2, S2, va, vb, vz, S3, hS2, q1.ext x2, q2, h3, fun ρ3 H3 z x3 hS3 q3 => ?_⟩
  split at hf
  · rename_i e
    obtain ⟨vc, S4, h4, hf⟩ := R.bind_ok hf
    refine ⟨true, boolOf_rp q3 e, ?_⟩
    rw [if_pos rfl]
    exact ⟨Γ, S3, ρ3, vc, S4, hS3, ((hE.ext x1).ext x2).ext x3, h4, fun ρ4 H4 u x4 hS4 q4 => ⟨ρ4, S4, vb, vc, v, S', hS4, (q2.ext x3).ext x4, q4, hf, fun ρ5 H5 r x5 hS5 q5 => hc ρ5 H5 r ((((x1.trans x2).trans x3).trans x4).trans x5) hS5 q5⟩⟩
  · rename_i e
    cases hf
    refine ⟨false, boolOf_rp q3 e, ?_⟩
    rw [if_neg Bool.false_ne_true]
    exact hc ρ3 H3 _ ((x1.trans x2).trans x3) hS3 (show Rp _ _ _ _ _ from .bl false)
  · cases hf
theorem le_chain {op op' : CmpOp} {g1 g2 : G2} (ho : OpR X (compareOp op) (rD X.F g1)) (ho' : OpR X (compareOp op') (rD X.F g2)) (ha : PE X a (LE X.F fa)) (hb : PE X b (LE X.F fb)) (hcc : PE X c (LE X.F fc)) (hm : behindInMarks op' c = false) : PE X (.Compare a [op, op'] [b, c] pos) (LE X.F (sChain g1 g2 fa fb fc)) :=
  (pe_chain ho ho' ha hb hcc hm).weak fun σ H Q h => ch_le h
theorem lt_chain {op op' : CmpOp} {g1 g2 : G2} (ho : OpR X (compareOp op) (rD X.F g1)) (ho' : OpR X (compareOp op') (rD X.F g2)) (ha : PE X a (LE X.F fa)) (hb : PE X b (LE X.F fb)) (hcc : PE X c (LE X.F fc)) (hm : behindInMarks op' c = false) : PT X (.Compare a [op, op'] [b, c] pos) (LT X.F (sTst (sChain g1 g2 fa fb fc))) :=
  (pt_chain ho ho' ha hb hcc hm).weak fun σ H Q h => ch_le (tst_of h)
theorem rgV_rp {K : Fg} {H : Hp} {m : List Addr} {n : Int} : RpL K H m (rgV 0 n) (rngIts 0 n.toNat) := by
  unfold rgV rngIts
  rw [Int.sub_zero]
  exact RpL.map (fun i => Rp.int _) _
theorem le_lrg {p p2 q : Pos} (hc : X.calm = true) (hg : Gl X "list") (hm : X.mg "list" = none) (hg2 : Gl X "range") (hm2 : X.mg "range" = none) (ha : PE X a (LE X.F fa)) (na : starEach [a] X.env = (false, eval a X.env) :: starEach [] X.env) : PE X (.Call (.Name "list" p) [.Call (.Name "range" p2) [a] [] q] [] pos) (LE X.F (sLrg fa)) :=
  (pe_listRg hc hg hm (prg_1 hg2 hm2 ha na) rfl).weak fun σ H Q ⟨Γ, S, ρ, v, S', hS, hE, hf, hcc⟩ => by
    obtain ⟨va, S1, h1, hf⟩ := R.bind_ok hf
    refine ⟨Γ, S, ρ, va, S1, hS, hE, h1, fun ρ1 H1 x x1 hS1 q1 => ?_⟩
    split at hf
    · rename_i j e
      split at hf
      · rename_i hz
        cases hf
        refine ⟨j, intOf_rp q1 e, ⟨by omega, by omega, hz.1, by omega, by omega⟩, fun t ht => ?_⟩
        exact hcc ρ1 _ _ (x1.trans (hS1.fresh ht).2) (hS1.fresh ht).1 (lstNew hS1 ht rgV_rp)
      · cases hf
    · cases hf
theorem ls_par3 {i j l : Nat} (hp : ∀ ta, PA X [a, b, c] ta → PS X st (tPar3 i j l ta)) (ha : PE X a (LE X.F fa)) (hb : PE X b (LE X.F fb)) (hcc : PE X c (LE X.F fc)) (h1 : starEach [a, b, c] X.env = (false, eval a X.env) :: starEach [b, c] X.env) (h2 : starEach [b, c] X.env = (false, eval b X.env) :: starEach [c] X.env) (h3 : starEach [c] X.env = (false, eval c X.env) :: starEach [] X.env) : PS X st (LS X.F (sPar3 i j l fa fb fc)) :=
  (hp _ (pa_cons ha (pa_cons hb (pa_cons hcc pa_nil h3) h2) h1)).weak fun D σ H ⟨Γ, S, ρ, fl, S', hS, hE, hf, hc⟩ => by
    obtain ⟨v, S1, h1, hf⟩ := R.bind_ok hf
    obtain ⟨w, S2, h2, hf⟩ := R.bind_ok hf
    obtain ⟨u, S3, h3, hf⟩ := R.bind_ok hf
    cases hf
    refine ⟨Γ, S, ρ, v, S1, hS, hE, h1, fun ρ1 H1 z x1 hS1 q1 => ?_⟩
    refine ⟨Γ, S1, ρ1, w, _, hS1, hE.ext x1, h2, fun ρ2 H2 y x2 hS2 q2 => ?_⟩
    refine ⟨Γ, S2, ρ2, u, _, hS2, (hE.ext x1).ext x2, h3, fun ρ3 H3 x x3 hS3 q3 => ?_⟩
    exact ⟨z, y, x, rfl, hc ρ3 H3 _ ((x1.trans x2).trans x3) hS3 ((((((hE.ext x1).ext x2).ext x3).set ((q1.ext x2).ext x3)).set (q2.ext x3)).set q3)⟩
end
end L2.Pv

set_option Elab.async false
set_option linter.all false
set_option maxRecDepth 100000
/-! Pt9: t.index(x), t a tuple of data -/
namespace L2.Pv
open PySem PySem.Spec PyProof.Rows L2
def isTO (x : V) (H : Hp) : Prop := ∃ (a : Addr) (o : Obj), x = .ref a ∧ TF o ∧ ∃ xs, H a = some (.frz o (.tup xs))
def isTK (K : PySem.W.Frag) (x : V) : Prop := ∃ (a : Addr) (o : Obj), x = .ref a ∧ TF o ∧ K.lookup a = some o
theorem isT_ty {X : Cx} (pins : List (Addr × Obj)) (σ : L2.St) (H : Hp) (s : Shared) (x : V) (v : Value) (I : Inv X pins σ H s) (rx : RelV x v) (h : isTO x H ∨ isTK X.K x) : s.TypeIs v "tuple" ∧ ∀ a, v = .ref a → ∃ ob, s.heap.get? a = some ob ∧ ob.dict = none := by
  rcases h with ⟨a, o, rfl, t, xs, h⟩ | ⟨a, o, rfl, t, h⟩
  · have h1 := (I.hok a _ h).1
    cases rx
    exact ⟨⟨o, h1, t.1⟩, fun b e => by cases e; exact ⟨o, h1, t.2⟩⟩
  · have h1 := I.kIn a o h
    cases rx
    exact ⟨⟨o, h1, t.1⟩, fun b e => by cases e; exact ⟨o, h1, t.2⟩⟩
def gIndexT (x : Vl) : GL := fun vs S => match x with
  | .d (.tuple ds) => match vs with
    | [.d d] => match ds.findIdx? (fun z => PyData.eqv z d) with
      | some j => if PyData.depth (.tuple ds) ≤ 64 ∧ d.depth ≤ 64 ∧ PyData.plainAll ds = true ∧ d.plain = true then .ok (.d (.int (j : Nat))) S else .bad
      | none => .bad
    | _ => .bad
  | _ => .bad
theorem gIndexT_ok {v r : Vl} {vs : List Vl} {S S' : Sto} (h : gIndexT v vs S = .ok r S') : ∃ (ds : List PyData) (d : PyData) (j : Nat), v = .d (.tuple ds) ∧ vs = [.d d] ∧ ds.findIdx? (fun z => PyData.eqv z d) = some j ∧ (PyData.depth (.tuple ds) ≤ 64 ∧ d.depth ≤ 64 ∧ PyData.plainAll ds = true ∧ d.plain = true) ∧ r = .d (.int (j : Nat)) ∧ S' = S := by
  unfold gIndexT at h
  split at h
  · split at h
    · split at h
      · rename_i j ej
        split at h
        · rename_i hz
          cases h
          exact ⟨_, _, j, rfl, rfl, ej, hz, rfl, rfl⟩
        · cases h
      · cases h
    · cases h
  · cases h
def sMetT (g : Vl → GL) (a : SE) (fs : List SE) : SE := fun Γ S => (a Γ S).bind fun x S1 => (sArgs fs Γ S1).bind fun vs S2 => g x vs S2
def rIndexT (K : PySem.W.Frag) : V → List V → Hp → VK → Prop := fun x xs H Q => ∃ (a : Addr) (y : V) (d : PyData) (ds : List PyData) (j : Nat), x = V.ref a ∧ xs = [y] ∧ Dp K H (V.ref a) (.tuple ds) ∧ Dp K H y d ∧
  SeqAt.shaped (.tuple ds) = true ∧ SeqAt.shaped d = true ∧ ds.findIdx? (fun z => PyData.eqv z d) = some j ∧ Q (.int (j : Nat)) H
theorem mt_indexT {X : Cx} (hu : X.A.units + 65 < cLine) : MtR X "tuple.index" (rIndexT X.K) := by
  intro pins s σ H x xs v us Q I rx rxs h
  obtain ⟨a, y, d, ds, j, rfl, rfl, hl, hy, sl, sd, hj, q⟩ := h
  obtain ⟨f1, f2, f3⟩ := List.findIdx?_eq_some_iff_getElem.mp hj
  cases rx
  obtain ⟨uy, rfl, ry⟩ := vals1 rxs
  obtain ⟨bs, r1⟩ := Dp.reads I d y uy hy ry
  have lay : PyData.canLayAll0 ds = true := SeqAt.canLay_of_shaped sl
  have room : X.A.units + 1 + min (PyData.depthAll ds) d.depth < cLine := room_in_shaped sd hu
  cases hl with
  | tup hs ha =>
    obtain ⟨its, rv, ⟨⟨cls, dd, data, sls⟩, ho, hc, n, hd⟩, _⟩ := I.tuple hs
    simp only at hc hd
    subst hc hd
    obtain ⟨as, h4⟩ := Dp.readsAll I ds _ its ha rv
    have len : its.length = ds.length := SeqAt.ReadsAll.length ds its as h4
    have hmap : its.map (SeqAt.readOf s.heap) = ds := SeqAt.readsAll_map ds its as lay h4
    have at_ : ∀ (m : Nat) (hm : m < its.toArray.size) (h2 : m < ds.length), SeqAt.readOf s.heap its.toArray[m] = ds[m] := fun m hm h2 => by
      have hml : m < its.length := by simpa using hm
      have e := congrArg (fun l => l[m]?) hmap
      simp only [List.getElem?_map, List.getElem?_eq_getElem hml, List.getElem?_eq_getElem h2, Option.map_some] at e
      simpa using Option.some.inj e
    have hja : j < its.toArray.size := by rw [List.size_toArray, len]; exact f1
    refine call_meets PySem.F.slot_tuple_index ⟨_, ho, rfl⟩ PySem.F.entry_tuple_index (PySem.F.args_tuple_index_2 _ _)
      (TI.tuple_indexAt a its.toArray n dd sls uy (fun u => PyData.eqv (SeqAt.readOf s.heap u) d) j hja ?_ ?_) ⟨ho, SeqAt.items_eqAt (vs := its.toArray) (show ReadsAll s.heap its.toArray.toList ds as from h4) r1 lay (SeqAt.canLay_of_shaped sd) room, ⟨.int (j : Nat), H, I.tok _, ⟨_, rfl⟩, q⟩⟩
    · show PyData.eqv (SeqAt.readOf s.heap its.toArray[j]) d = true
      rw [at_ j hja f1]
      exact f2
    · intro m hm hmj
      show PyData.eqv (SeqAt.readOf s.heap its.toArray[m]) d = false
      rw [at_ m hm (Nat.lt_trans hmj f1)]
      have := f3 m hmj
      simpa using this
section
variable {X : Cx}
theorem le_indexT {o e : Expr} {apos cpos : Pos} {fo fe : SE} (hu : X.A.units + 65 < cLine) (f : M1 X o e "index" apos cpos) (ho : PE X o (LE X.F fo)) (he : PE X e (LE X.F fe)) : PE X (.Call (.Attribute o "index" apos) [e] [] cpos) (LE X.F (sMetT gIndexT fo [fe])) :=
  (pe_bmx (P := fun x H => isTO x H ∨ isTK X.K x) isT_ty PySem.F.plainAttrs_tuple PySem.F.slot_tuple_index PySem.F.type_tuple_index (mt_indexT hu) ho (la_cons he la_nil f.st) f.base f.few f.line f.st f.plain).weak fun σ H Q h => by
    obtain ⟨Γ, S, ρ, v, S', hS, hE, hf, hc⟩ := h
    obtain ⟨va, S1, e1, hf⟩ := R.bind_ok hf
    obtain ⟨vs, S2, e2, hf⟩ := R.bind_ok hf
    refine ⟨Γ, S, ρ, va, S1, hS, hE, e1, fun ρ1 H1 x x1 hS1 q1 => ?_⟩
    obtain ⟨ds, d, j, rfl, rfl, ej, hz, rfl, rfl⟩ := gIndexT_ok hf
    cases (show Rp _ _ _ _ _ from q1) with
    | tup ta qa =>
      refine ⟨?_, Γ, S1, ρ1, _, _, hS1, hE.ext x1, e2, fun ρ2 H2 ys x2 hS2 q2 => ?_⟩
      · rcases ta with ⟨o, t, h, _⟩ | ⟨o, its, n, h, c, d0, _⟩
        · exact .inl ⟨_, o, rfl, t, _, h⟩
        · exact .inr ⟨_, o, rfl, ⟨c, d0⟩, h⟩
      · obtain ⟨y, rfl, hy⟩ := q2.one rfl
        have h1 : Rp X.F H2 ρ2.m (.ref _) (.tuple ds) := Vr.ext x2 (show Vr X.F H1 ρ1 (.ref _) (.d (.tuple ds)) from .tup ta qa)
        have hp : PyData.plain (.tuple ds) = true := by simpa [PyData.plain] using hz.2.2.1
        exact ⟨_, y, d, ds, j, rfl, rfl, Rp.dp _ _ hp h1, Rp.dp _ _ hz.2.2.2 hy, shaped_of hp h1 hz.1, shaped_of hz.2.2.2 hy hz.2.1, ej, hc ρ2 H2 _ (x1.trans x2) hS2 (show Rp _ _ _ _ _ from .int _)⟩
end
end L2.Pv

set_option Elab.async false
set_option linter.all false
set_option maxRecDepth 100000
namespace L2.Pv
open PySem PySem.Spec PyProof.Rows L2

/-! ### the written text to its meaning -/
inductive Bi where
  | len | abs | int | max | min | str | ord | list | tuple | all | any | range | enumerate | zip | reversed | isinstance | bool | sorted | sum | dict
def biName : Bi → Str
  | .len => "len" | .abs => "abs" | .int => "int" | .max => "max" | .min => "min" | .str => "str" | .ord => "ord" | .list => "list" | .tuple => "tuple" | .all => "all" | .any => "any"
  | .range => "range" | .enumerate => "enumerate" | .zip => "zip" | .reversed => "reversed" | .isinstance => "isinstance" | .bool => "bool" | .sorted => "sorted" | .sum => "sum" | .dict => "dict"
inductive GE where
  | blt (b : Bi)
  | con (d : PyData)
  | fn (n : Nat)
  | fk (n : Nat) (ks : List (Str × PyData))
structure Inf where
  N : List Str
  sc : Scope
  blk : Bool
  G : List (Str × GE)
  new : List Nat
  fz : List (Nat × Nat)

def posKey (p : Pos) : Nat := p.line * 1000 + p.col
def okName (x : Str) : Bool := !(x == ("__debug__" : Str)) && !(x == ("__classdict__" : Str)) && !(x == ("__name__" : Str))
def idxOf (N : List Str) (x : Str) : Option Nat := N.findIdx? (· == x)
def visB (sc : Scope) (x : Str) : Bool := match sc.names.lookup x with
  | some .local => true
  | some .cell => true
  | some .free => true
  | _ => false
def locB (blk : Bool) (sc : Scope) (x : Str) : Bool := match sc.names.lookup x with
  | some .local => true
  | some .cell => !blk
  | _ => false
def glB (sc : Scope) (x : Str) : Bool := match sc.names.lookup x with
  | some .globalImplicit => true
  | _ => false
def notStar : Expr → Bool
  | .Starred _ _ => false
  | _ => true
def notSlice : Expr → Bool
  | .Slice _ _ _ _ => false
  | _ => true
def notSet : Expr → Bool
  | .Set _ _ _ => false
  | _ => true
def notComp : Expr → Bool
  | .ListComp _ _ _ _ => false
  | .SetComp _ _ _ _ => false
  | .DictComp _ _ _ _ _ => false
  | _ => true
def notTuple : Expr → Bool
  | .Tuple _ _ _ => false
  | _ => true
def okBase : Expr → Bool
  | .Call _ [] [] _ => false
  | .Name _ _ => true
  | .Constant _ _ _ => true
  | .Subscript _ _ _ => true
  | .Call _ (_ :: _) _ _ => true
  | .BinOp _ _ _ _ => true
  | .List _ _ => true
  | _ => false
def plainTest : Expr → Bool
  | .Name _ _ => true
  | .Call _ _ _ _ => true
  | .Subscript _ _ _ => true
  | .BinOp _ _ _ _ => true
  | .List _ _ => true
  | .Tuple _ _ _ => true
  | .ListComp _ _ _ _ => true
  | .Constant _ _ _ => true
  | _ => false
section
variable {e a b : Expr} {es : List Expr} {env : PySem.Env}
theorem star_cons (h : notStar e = true) : starEach (e :: es) env = (false, eval e env) :: starEach es env := by cases e <;> first | rfl | cases h
theorem plainIx_of (h : notSlice e = true) : PlainIx e := by cases e <;> first | (intro _ _; rfl) | cases h
theorem noMark (h : notSet e = true) (op : CmpOp) : behindInMarks op e = false := by cases e <;> first | rfl | cases h
theorem noFold (h : notSet e = true) (env : PySem.Env) : ∀ x, foldedSetIterable e env x = pure x := by cases e <;> first | (intro _; rfl) | cases h
theorem swaps_none (h : notComp e = true) (t : Option Expr) (l : Nat) : swapsWith e t l env = pure false := by cases e <;> first | rfl | cases h
theorem swaps_tup (t : Expr) (l : Nat) (h : ∀ x p, t ≠ .Name x p) : swapsWith e (some t) l env = pure false := by
  cases e <;> first
    | rfl
    | (cases t <;> first
        | rfl
        | exact absurd rfl (h _ _))
theorem stores_none (tg : Expr) (h : notTuple e = true) : swappedStores [tg] e env = pure none := by cases tg <;> cases e <;> first | rfl | cases h
theorem stores_none' (tg : Expr) (h : notTuple tg = true) (h2 : ∀ ts p, tg ≠ .List ts p) : swappedStores [tg] e env = pure none := by
  cases tg <;> cases e <;> first | rfl | exact absurd rfl (h2 _ _) | cases h
theorem base_of (name : Str) (h : okBase e = true) : attributeBase e name env (eval e env) = eval e env := by
  cases e with
  | Call f args kws p =>
    cases args with
    | nil => cases kws <;> cases h
    | cons a as => cases f <;> rfl
  | _ => first | rfl | cases h
theorem plain_of (h : plainTest e = true) : ∀ whole, isTrue e env whole = (do let v ← whole; standAt e.pos; holding [v] (truthy v)) := by
  cases e <;> first | (intro _; rfl) | cases h
theorem back_any (pos : Pos) : ∀ {es : List Expr}, es.all notStar = true → (backTo pos (starEach es env)).any (·.1) = false
  | [], _ => rfl
  | e :: es, h => by
    have h' : notStar e = true ∧ es.all notStar = true := by simpa using h
    rw [star_cons h'.1]
    show (false || (backTo pos (starEach es env)).any (·.1)) = false
    rw [back_any pos h'.2]
    rfl
theorem m1_of {X : Cx} {o : Expr} {name : Str} {apos cpos : Pos} (h1 : okBase o = true) (h2 : notStar e = true) (h3 : (apos.endLine == cpos.line) = true) : M1 X o e name apos cpos where
  base := base_of name h1
  few := by
    rw [star_cons h2]
    rfl
  line := h3
  st := star_cons h2
  plain := rfl
theorem idxOf_ok {N : List Str} {x : Str} {i : Nat} (h : idxOf N x = some i) : N[i]? = some x := by
  unfold idxOf at h
  obtain ⟨h1, h2, _⟩ := List.findIdx?_eq_some_iff_getElem.mp h
  rw [List.getElem?_eq_getElem h1]
  simpa using h2
end

/-- keyword-only parameters with defaults: called by n values, or by n values and all of them -/
structure FkB (K : Fg) (fd : FuncData) (ps : List Str) (n : Nat) (ks : List (Str × PyData)) : Prop where
  df : ∃ (dvs : List V) (ds : List Value), Vals dvs ds ∧ RpL K HN [] dvs (ks.map (·.2)) ∧ Binds K.K fd ps ds
  kw : KBn K.K fd ps n (ks.map (·.1)) (fun us ws => us ++ ws) (fun vs zs => vs ++ zs)
/-- what a global name stands for -/
def GOk (X : Cx) (call : Str → GL) (k : Nat) (x : Str) : GE → Prop
  | .blt b => X.mg x = none ∧ x = biName b
  | .con d => ∃ u v, X.mg x = some u ∧ RelV v u ∧ Rp X.F HN [] v d
  | .fn n => ∃ f fd ps, X.mg x = some (.ref f) ∧ PySem.W.keepIn X.K (.ref f) = true ∧ Binds X.K fd ps [] ∧ FnOk X.prog X.w X.K X.mg X.base CX0 k f fd ps (SpD X.F n (call x))
  | .fk n ks => ∃ f fd ps, X.mg x = some (.ref f) ∧ PySem.W.keepIn X.K (.ref f) = true ∧ FkB X.F fd ps n ks ∧ FnOk X.prog X.w X.K X.mg X.base CX0 k f fd ps (SpD X.F (n + ks.length) (call x))
structure Cok (X : Cx) (I : Inf) (call : Str → GL) (k : Nat) : Prop where
  N : X.N = I.N
  nd : X.N.Nodup
  sc : X.env.scope = I.sc
  calm : X.calm = true
  fn : I.blk = false → ∀ x, X.fn x = true
  xe : X.xe = fun _ _ => False
  room : Room k X.A
  glob : ∀ x e, I.G.lookup x = some e → GOk X call k x e
section
variable {X : Cx} {I : Inf} {call : Str → GL} {k : Nat} {x : Str}
theorem vis_of (C : Cok X I call k) (h : visB I.sc x = true) : Vis X.env.scope x := by
  unfold Vis
  rw [C.sc]
  unfold visB at h
  split at h
  · exact .inl (by assumption)
  · exact .inr (.inl (by assumption))
  · exact .inr (.inr (by assumption))
  · cases h
theorem gl_of (C : Cok X I call k) (h : glB I.sc x = true) : Gl X x := by
  show X.env.scope.names.lookup x = _
  rw [C.sc]
  unfold glB at h
  split at h
  · assumption
  · cases h
theorem loc_of (C : Cok X I call k) (h : locB I.blk I.sc x = true) : Loc X.env.scope x ∧ (X.fn x = true ∨ X.env.scope.names.lookup x = some .local) := by
  unfold Loc
  rw [C.sc]
  unfold locB at h
  split at h
  · rename_i e
    exact ⟨.inl e, .inr e⟩
  · rename_i e
    exact ⟨.inr e, .inl (C.fn (by simpa using h) x)⟩
  · cases h
theorem ok_of (h : okName x = true) : (x == ("__debug__" : Str)) = false ∧ (x == ("__classdict__" : Str)) = false ∧ x ≠ "__name__" := by
  unfold okName at h
  simp only [Bool.and_eq_true, Bool.not_eq_true'] at h
  exact ⟨h.1.1, h.1.2, fun z => by rw [z] at h; exact absurd h.2 (by decide +kernel)⟩
end

def constOf : Const → Option PyData
  | .int i => some (.int i)
  | .bool b => some (.bool b)
  | .none => some .none
  | .str x => if PySem.PyData.strOk x = true then some (.str x) else none
  | _ => none
def binG : Operator → Option G2
  | .Add => some gAdd
  | .Sub => some (dat2 dSub)
  | .Mult => some (dat2 dMul)
  | .FloorDiv => some (dat2 dFdiv)
  | .Mod => some (dat2 dMod)
  | .Pow => some (dat2 dPow)
  | _ => none
def cmpG : CmpOp → Option G2
  | .Eq => some (cmp2 dEq)
  | .NotEq => some (cmp2 dNe)
  | .Lt => some (cmp2 dLt)
  | .LtE => some (cmp2 dLe)
  | .Gt => some (cmp2 dGt)
  | .GtE => some (cmp2 dGe)
  | .In => some (cmp2 dIn)
  | .NotIn => some (cmp2 dNotIn)
  | .Is => some (gIsN false)
  | .IsNot => some (gIsN true)
def biG : Bi → Option GL
  | .len => some (arg1 gLen)
  | .abs => some (arg1 (dat1 dAbs))
  | .int => some (arg1 (dat1 dInt))
  | .max => some (arg2 (dat2 dMax))
  | .min => some (arg2 (dat2 dMin))
  | .str => some (arg1 (dat1 dStr))
  | .ord => some (arg1 (dat1 dOrd))
  | .list => some (arg1 gList)
  | .tuple => some (arg1 gTuple)
  | .all => some (arg1 gAll)
  | .any => some (arg1 gAny)
  | .sorted => some (arg1 gSort)
  | .sum => some (arg1 gSum)
  | _ => none
def biGN (b : Bi) (nw : Bool) (n : Nat) : Option GL := match b, nw, n with
  | .list, true, _ => some (arg1 gListN)
  | .max, _, 1 => some (arg1 gMax1)
  | .min, _, 1 => some (arg1 gMin1)
  | b, _, _ => biG b
def biTy : Bi → Option String
  | .int => some "int"
  | .str => some "str"
  | .list => some "list"
  | .tuple => some "tuple"
  | .bool => some "bool"
  | _ => none
def metG (name : Str) : Option (SE → SE → SE) :=
  if name = ("append" : Str) then some fun fo fe => sMetO gAppend fo [fe] else
  if name = ("extend" : Str) then some fun fo fe => sMetO gExtend fo [fe] else
  if name = ("pop" : Str) then some fun fo fe => sMetO gPop1 fo [fe] else
  if name = ("join" : Str) then some fun fo fe => sMetS gJoin fo [fe] else
  if name = ("startswith" : Str) then some fun fo fe => sMetS gStarts fo [fe] else
  if name = ("split" : Str) then some fun fo fe => sMetS gSplit fo [fe] else none

structure CR where
  e : Option SE
  t : Option ST
def seqM {α β : Type} (f : α → Option β) : List α → Option (List β)
  | [] => some []
  | a :: r => match f a with
    | some b => (seqM f r).map (b :: ·)
    | none => none
def isOwn : NameKind → Bool
  | .local => true
  | .cell => true
  | _ => false
def ownOf (N : List Str) : List (Str × NameKind) → List (Str × Nat)
  | [] => []
  | (n, kd) :: r => match isOwn kd, idxOf N n with
    | true, some i => (n, i) :: ownOf N r
    | _, _ => ownOf N r
def inBlk (I : Inf) (scope : Scope) : Inf := { I with sc := relS scope I.sc, blk := true }
def nmPlace (I : Inf) : Expr → Option Nat
  | .Name x _ => match idxOf I.N x with
    | some i => if locB I.blk I.sc x = true then some i else none
    | none => none
  | _ => none
def tgOf (I : Inf) : Expr → Option (List Nat × Tg)
  | .Name x p => (nmPlace I (.Name x p)).map fun i => ([i], tNm i)
  | .Tuple es _ _ => (seqM (nmPlace I) es).map fun is => (is, tTp is)
  | _ => none
def isTup : Expr → Bool
  | .Tuple _ _ _ => true
  | _ => false
def isSubs : Expr → Bool
  | .Subscript _ _ _ => true
  | _ => false
def itOf (rec : Inf → Expr → CR) (I : Inf) (tg e : Expr) : Option SI := match e with
  | .Call (.Name x p) args [] pos =>
    match if glB I.sc x = true then I.G.lookup x else none with
    | some (.blt .range) => match args with
      | [a] => if notStar a = true then (rec I a).e.map sRng1 else none
      | [a, b] => if notStar a = true ∧ notStar b = true then match (rec I a).e, (rec I b).e with
          | some fa, some fb => some (sRng2 fa fb)
          | _, _ => none
        else none
      | _ => none
    | some (.blt .enumerate) => match args with
      | [a] => if notStar a = true ∧ isTup tg = true then (rec I a).e.map sEnum else none
      | _ => none
    | some (.blt .reversed) => match args with
      | [a] => if notStar a = true then (rec I a).e.map sRev else none
      | _ => none
    | _ => (rec I (.Call (.Name x p) args [] pos)).e.map sIter
  | e => (rec I e).e.map sIter
def boolEs (op : BoolOp) : List SE → Option SE
  | [] => none
  | [f] => some f
  | f :: r => match op, boolEs op r with
    | .And, some g => some (sAndV f g)
    | .Or, some g => some (sOrV f g)
    | _, none => none
def boolTs (op : BoolOp) : List ST → Option ST
  | [] => none
  | [f] => some f
  | f :: r => match op, boolTs op r with
    | .And, some g => some (sAnd f g)
    | .Or, some g => some (sOr f g)
    | _, none => none
def partOf (rec : Inf → Expr → CR) (I : Inf) : Option Expr → Option (Option SE)
  | none => some none
  | some e => (rec I e).e.map some
def conT (I : Inf) : Expr → Option (List Str)
  | .Name x _ => if okName x = true then
      match if glB I.sc x = true then I.G.lookup x else none with
      | some (.con (.tuple ds)) => strsOf ds
      | _ => none
    else none
  | _ => none
def exprOf (call : Str → GL) (rec : Inf → Expr → CR) (I : Inf) (e : Expr) : Option SE := match e with
  | .Name x _ => if okName x = true then
      match if visB I.sc x = true then idxOf I.N x else none with
      | some i => some (sVar i)
      | none => match if glB I.sc x = true then I.G.lookup x else none with
        | some (.con d) => some (sCon d)
        | _ => none
    else none
  | .Constant c _ _ => (constOf c).map sCon
  | .BinOp a op b _ => match (rec I a).e, (rec I b).e, binG op with
    | some fa, some fb, some g => some (sBin g fa fb)
    | _, _, _ => none
  | .UnaryOp .USub a _ => (rec I a).e.map (sUn (dat1 dNeg))
  | .UnaryOp .Not a _ => (rec I a).e.map sNotV
  | .Compare a [op] [b] _ => if notSet b = true then match (rec I a).e, (rec I b).e, cmpG op with
      | some fa, some fb, some g => some (sBin g fa fb)
      | _, _, _ => none
    else none
  | .BoolOp op vs _ => match seqM (fun v => (rec I v).e) vs with
    | some fs => boolEs op fs
    | none => none
  | .IfExp c a b _ => match (rec I c).t, (rec I a).e, (rec I b).e with
    | some tc, some fa, some fb => some (sIf tc fa fb)
    | _, _, _ => none
  | .Subscript a (.Slice lo hi none _) _ => match (rec I a).e, partOf rec I lo, partOf rec I hi with
    | some fa, some fl, some fh => some (sSl fa fl fh)
    | _, _, _ => none
  | .Subscript a (.Slice none none (some (.UnaryOp .USub (.Constant (.int 1) _ _) _)) _) _ => (rec I a).e.map (sUn gBack)
  | .Subscript a b _ => if notSlice b = true then match (rec I a).e, (rec I b).e with
      | some fa, some fb => some (sBin gIx fa fb)
      | _, _ => none
    else none
  | .Tuple es _ _ => if es.all notStar = true then (seqM (fun v => (rec I v).e) es).map (sCall gTup) else none
  | .List es pos => if es.all notStar = true then (seqM (fun v => (rec I v).e) es).map (sCall (if posKey pos ∈ I.new then gNew else gLst)) else none
  | .Call (.Name x _) args [] cpos => if okName x = true ∧ args.all notStar = true then
      match if glB I.sc x = true then I.G.lookup x else none with
      | some (.fn n) => match seqM (fun v => (rec I v).e) args with
        | some fs => if fs.length = n then some (sCall (call x) fs) else none
        | none => none
      | some (.fk n ks) => match seqM (fun v => (rec I v).e) args with
        | some fs => if fs.length = n ∧ 0 < n then some (sCall (call x) (fs ++ ks.map fun q => sCon q.2)) else none
        | none => none
      | some (.blt .isinstance) => match args with
        | [a, .Name T _] => match if glB I.sc T = true then I.G.lookup T else none with
          | some (.blt b) => match (rec I a).e, biTy b with
            | some fa, some ty => some (sUn (gIsi ty) fa)
            | _, _ => none
          | _ => none
        | _ => none
      | some (.blt b) => match args with
        | a :: r => match seqM (fun v => (rec I v).e) (a :: r), biGN b (decide (posKey cpos ∈ I.new)) (a :: r).length with
          | some fs, some g => some (sCall g fs)
          | _, _ => none
        | [] => none
      | _ => none
    else none
  | .Call (.Attribute o name apos) [a] [] cpos => if okBase o = true ∧ notStar a = true ∧ (apos.endLine == cpos.line) = true then
      if name = ("index" : Str) then
        match conT I o with
        | some ys => (rec I a).e.map fun fa => sUn (gIndexC ys) fa
        | none => match (rec I o).e, (rec I a).e with
          | some fo, some fa => some (if isSubs o = true then sMetT gIndexT fo [fa] else sMetL gIndex fo [fa])
          | _, _ => none
      else if name = ("get" : Str) then match (rec I o).e, (rec I a).e with
        | some fo, some fa => some (sMetD gGet fo [fa])
        | _, _ => none
      else
      match (rec I o).e, (rec I a).e, metG name with
      | some fo, some fa, some g => some (g fo fa)
      | _, _, _ => none
    else none
  | .Call (.Attribute o name apos) [] [] cpos => if okBase o = true ∧ (apos.endLine == cpos.line) = true ∧ name = ("pop" : Str) then (rec I o).e.map fun fo => sMetO gPop0 fo [] else none
  | .Call (.Attribute o name apos) [a, b] [] cpos => if okBase o = true ∧ (notStar a = true ∧ notStar b = true) ∧ (apos.endLine == cpos.line) = true ∧ name = ("get" : Str) then
      match (rec I o).e, (rec I a).e, (rec I b).e with
      | some fo, some fa, some fb => some (sMetD gGet fo [fa, fb])
      | _, _, _ => none
    else none
  | .Call (.Name x _) (a :: args) (kw :: kws) _ => if okName x = true ∧ (a :: args).all notStar = true then
      match if glB I.sc x = true then I.G.lookup x else none with
      | some (.fk n ks) => if (kw :: kws).map (·.arg) = ks.map (fun q => some q.1) then match seqM (fun v => (rec I v).e) (a :: args), seqM (fun (v : Keyword) => (rec I v.value).e) (kw :: kws) with
          | some fs, some gs => if fs.length = n then some (sCall (call x) (fs ++ gs)) else none
          | _, _ => none
        else none
      | _ => none
    else none
  | .Dict [] [] pos => some (if posKey pos ∈ I.new then sDctN else sDct0)
  | .ListComp elt [⟨tg, it, ifs, 0⟩] scope pos => if blkC I.N I.sc scope (ownOf I.N scope.names) = true ∧ notSet it = true then
      match tgOf (inBlk I scope) tg, itOf rec I tg it, (rec (inBlk I scope) elt).e with
      | some (is, t), some fi, some fe => if (is.all fun i => decide (i ∈ (ownOf I.N scope.names).map (·.2))) = true then
          match ifs with
          | [] => some (if posKey pos ∈ I.new then sCompN ((ownOf I.N scope.names).map (·.2)) fi t sYes fe else sComp ((ownOf I.N scope.names).map (·.2)) fi t sYes fe)
          | [c] => (rec (inBlk I scope) c).t.map fun tc => if posKey pos ∈ I.new then sCompN ((ownOf I.N scope.names).map (·.2)) fi t tc fe else sComp ((ownOf I.N scope.names).map (·.2)) fi t tc fe
          | _ => none
        else none
      | _, _, _ => none
    else none
  | _ => none
def testOf (rec : Inf → Expr → CR) (self : Option SE) (I : Inf) (e : Expr) : Option ST := match e with
  | .Compare _ [_] [_] _ => self.map sTst
  | .UnaryOp .Not a _ => (rec I a).t.map sNot
  | .BoolOp op vs _ => match seqM (fun v => (rec I v).t) vs with
    | some fs => boolTs op fs
    | none => none
  | e => if plainTest e = true then self.map sTru else none
/-- calls whose value goes on as data -/
def frz (I : Inf) (e : Expr) (f : SE) : SE := match e with
  | .Call _ _ _ pos => if (posKey pos, 9999) ∈ I.fz then sFr f else f
  | _ => f
def tsOf (rec : Inf → Expr → CR) (I : Inf) : List Expr → Option ST
  | [] => some sYes
  | [c] => (rec I c).t
  | _ => none
/-- {k: v}, a < b < c, list(range(n)) -/
def xtraOf (rec : Inf → Expr → CR) (I : Inf) (e : Expr) : Option SE := match e with
  | .Dict [some k] [v] pos => if posKey pos ∈ I.new then match (rec I k).e, (rec I v).e with
      | some fk, some fv => some (sDct1 fk fv)
      | _, _ => none
    else none
  | .Compare a [op, op'] [b, c] _ => if notSet c = true then match (rec I a).e, (rec I b).e, (rec I c).e, cmpG op, cmpG op' with
      | some fa, some fb, some fc, some g, some g' => some (sChain g g' fa fb fc)
      | _, _, _, _, _ => none
    else none
  | .BinOp a .Add b pos => if posKey pos ∈ I.new then match (rec I a).e, (rec I b).e with
      | some fa, some fb => some (sBin gAddN fa fb)
      | _, _ => none
    else none
  | .Call (.Name x _) [.Call (.Name y _) [a] [] _] [] _ => if notStar a = true then
      match (if glB I.sc x = true then I.G.lookup x else none), (if glB I.sc y = true then I.G.lookup y else none) with
      | some (.blt .list), some (.blt .range) => (rec I a).e.map sLrg
      | _, _ => none
    else none
  | .ListComp elt [⟨tg, it, ifs, 0⟩, ⟨tg1, it1, ifs1, 0⟩] scope _ => if blkC I.N I.sc scope (ownOf I.N scope.names) = true ∧ notSet it = true ∧ notSet it1 = true then
      match tgOf (inBlk I scope) tg, itOf rec I tg it, tgOf (inBlk I scope) tg1, itOf rec (inBlk I scope) tg1 it1, (rec (inBlk I scope) elt).e with
      | some (is, t), some fi, some (is1, t1), some fi1, some fe => if (is.all fun i => decide (i ∈ (ownOf I.N scope.names).map (·.2))) = true ∧ (is1.all fun i => decide (i ∈ (ownOf I.N scope.names).map (·.2))) = true then
          match tsOf rec (inBlk I scope) ifs, tsOf rec (inBlk I scope) ifs1 with
          | some c, some c1 => some (sComp2 ((ownOf I.N scope.names).map (·.2)) is1 fi t c fi1 t1 c1 fe)
          | _, _ => none
        else none
      | _, _, _, _, _ => none
    else none
  | _ => none
def xtraT (rec : Inf → Expr → CR) (I : Inf) (e : Expr) : Option ST := match e with
  | .Compare a [op, op'] [b, c] _ => if notSet c = true then match (rec I a).e, (rec I b).e, (rec I c).e, cmpG op, cmpG op' with
      | some fa, some fb, some fc, some g, some g' => some (sTst (sChain g g' fa fb fc))
      | _, _, _, _, _ => none
    else none
  | _ => none
def exprX (call : Str → GL) (rec : Inf → Expr → CR) (I : Inf) (e : Expr) : Option SE := match xtraOf rec I e with
  | some f => some f
  | none => exprOf call rec I e
def testX (call : Str → GL) (rec : Inf → Expr → CR) (I : Inf) (e : Expr) : Option ST := match xtraT rec I e with
  | some f => some f
  | none => testOf rec (exprOf call rec I e) I e
def cE (call : Str → GL) : Nat → Inf → Expr → CR
  | 0, _, _ => ⟨none, none⟩
  | n + 1, I, e => ⟨(exprX call (cE call n) I e).map (frz I e), testX call (cE call n) I e⟩
end L2.Pv

set_option Elab.async false
set_option linter.all false
set_option maxRecDepth 100000
namespace L2.Pv
open PySem PySem.Spec PyProof.Rows L2

def Sound (call : Str → GL) (k : Nat) (rec : Inf → Expr → CR) : Prop :=
  ∀ (I : Inf) (X : Cx) (e : Expr), Cok X I call k → (∀ f, (rec I e).e = some f → PE X e (LE X.F f)) ∧ ∀ t, (rec I e).t = some t → PT X e (LT X.F t)

/-! ### calls of defs with keyword-only parameters -/
theorem sArgs_app {Γ : Env} : ∀ {fs gs : List SE} {S : Sto}, sArgs (fs ++ gs) Γ S = (sArgs fs Γ S).bind fun vs S1 => (sArgs gs Γ S1).bind fun ws S2 => .ok (vs ++ ws) S2
  | [], gs, S => by
    show sArgs gs Γ S = (sArgs gs Γ S).bind fun ws S2 => .ok ws S2
    cases sArgs gs Γ S <;> rfl
  | f :: fs, gs, S => by
    show ((f Γ S).bind fun v S1 => (sArgs (fs ++ gs) Γ S1).bind fun vs S2 => .ok (v :: vs) S2) = ((f Γ S).bind fun v S1 => (sArgs fs Γ S1).bind fun vs S2 => .ok (v :: vs) S2).bind _
    cases f Γ S with
    | bad => rfl
    | ok v S1 =>
      show (sArgs (fs ++ gs) Γ S1).bind _ = ((sArgs fs Γ S1).bind fun vs S2 => .ok (v :: vs) S2).bind _
      rw [sArgs_app]
      cases sArgs fs Γ S1 with
      | bad => rfl
      | ok vs S2 =>
        show ((sArgs gs Γ S2).bind _).bind _ = (sArgs gs Γ S2).bind _
        cases sArgs gs Γ S2 <;> rfl
theorem sArgs_con {Γ : Env} {S : Sto} : ∀ {ks : List (Str × PyData)}, sArgs (ks.map fun q => sCon q.2) Γ S = .ok (ks.map fun q => .d q.2) S
  | [] => rfl
  | q :: ks => by
    show (sArgs (ks.map fun q => sCon q.2) Γ S).bind _ = _
    rw [sArgs_con]
    rfl
theorem con_vr {K : Fg} {H : Hp} {ρ : Pl} : ∀ {ks : List (Str × PyData)} {dvs : List V}, RpL K HN [] dvs (ks.map (·.2)) → VrL K H ρ dvs (ks.map fun q => .d q.2)
  | [], _, h => by cases h; exact .nil
  | q :: ks, _, h => by
    cases h with
    | cons a b => exact .cons (Rp.cov Cov.base _ _ a) (con_vr b)
theorem _root_.L2.PK.weak {X : Cx} {e : List Keyword} {t t' : TA} (h : PK X e t) (w : ∀ σ H Q, t' σ H Q → t σ H Q) : PK X e t' := ⟨fun p pins s σ H Q I hq => h.run p pins s σ H Q I (w _ _ _ hq)⟩
section
variable {X : Cx} {k n : Nat} {f : Addr} {fd : FuncData} {ps : List Str} {g : GL} {x : Str} {p pos : Pos} {a : Expr} {es : List Expr} {kws : List Keyword} {fs gs : List SE} {ks : List (Str × PyData)}
theorem le_callD (F : FnOk X.prog X.w X.K X.mg X.base CX0 k f fd ps (SpD X.F (n + ks.length) g)) (hr : Room k X.A) (hg : Gl X x) (hm : X.mg x = some (.ref f)) (hk : PySem.W.keepIn X.K (.ref f) = true) (B : FkB X.F fd ps n ks) (hl : fs.length = n)
    (ha : PA X (a :: es) (LA X.F (sArgs fs))) (hdb : (x == ("__debug__" : Str)) = false) (he : starEach (a :: es) X.env = (false, eval a X.env) :: starEach es X.env) (hpl : (backTo pos (starEach es X.env)).any (·.1) = false) :
    PE X (.Call (.Name x p) (a :: es) [] pos) (LE X.F (sCall g (fs ++ ks.map fun q => sCon q.2))) := by
  obtain ⟨dvs, ds, h1, h2, h3⟩ := B.df
  refine (pe_call F hr hg hm hk h3 h1 pass0 ha hdb he hpl).weak fun σ H Q hq => ?_
  obtain ⟨Γ, S, ρ, v, S', hS, hE, hf, hc⟩ := hq
  unfold sCall at hf
  rw [sArgs_app] at hf
  obtain ⟨vs0, S0, h0, hf⟩ := R.bind_ok hf
  obtain ⟨vs, S1, h4, h5⟩ := R.bind_ok h0
  rw [sArgs_con] at h5
  cases h5
  refine ⟨Γ, S, ρ, vs, _, hS, hE, h4, fun ρ1 H1 xs x1 hS1 q1 => ?_⟩
  have hlen := len_args (K := X.F) h4
  have hxs := Paired.length q1
  have hd := h2.length
  rw [List.length_map] at hd
  refine ⟨by rw [List.length_append]; omega, ρ1, _, _, v, S', hS1, pairedAppend q1 (con_vr h2), hf, fun ρ3 H3 z x3 hS3 q3 => hc ρ3 H3 z (x1.trans x3) hS3 q3⟩
theorem lk_nil : PK X [] (LA X.F (sArgs [])) := pk_nil.weak fun σ H Q ⟨Γ, S, ρ, v, S', hS, hE, hf, hc⟩ => by
  cases hf
  exact hc ρ H [] (Ext.refl hS) hS .nil
theorem lk_cons {nm : Option Str} {kpos : Pos} {fa : SE} (ha : PE X a (LE X.F fa)) (hr : PK X kws (LA X.F (sArgs fs))) : PK X (⟨nm, a, kpos⟩ :: kws) (LA X.F (sArgs (fa :: fs))) :=
  (pk_cons ha hr).weak fun σ H Q ⟨Γ, S, ρ, v, S', hS, hE, hf, hc⟩ => by
    obtain ⟨va, S1, h1, hf⟩ := R.bind_ok hf
    obtain ⟨vs, S2, h2, hf⟩ := R.bind_ok hf
    cases hf
    refine ⟨Γ, S, ρ, va, S1, hS, hE, h1, fun ρ1 H1 x x1 hS1 q1 => ?_⟩
    refine ⟨Γ, S1, ρ1, _, _, hS1, hE.ext x1, h2, fun ρ2 H2 xs x2 hS2 q2 => ?_⟩
    exact hc ρ2 H2 _ (x1.trans x2) hS2 (.cons (q1.ext x2) q2)
theorem kw_names (pos : Pos) (env : PySem.Env) : ∀ kws : List Keyword, (backToKw pos (keywordEach kws env)).map (·.1) = kws.map (·.arg)
  | [] => rfl
  | ⟨nm, v, kp⟩ :: kws => by
    show nm :: (backToKw pos (keywordEach kws env)).map (·.1) = _
    rw [kw_names pos env kws]
    rfl
theorem le_callKw (F : FnOk X.prog X.w X.K X.mg X.base CX0 k f fd ps (SpD X.F (n + ks.length) g)) (hr : Room k X.A) (hg : Gl X x) (hm : X.mg x = some (.ref f)) (hk : PySem.W.keepIn X.K (.ref f) = true) (B : FkB X.F fd ps n ks) (hl : fs.length = n) (hkw : kws.map (·.arg) = ks.map fun q => some q.1) (hlg : gs.length = kws.length)
    (ha : PA X (a :: es) (LA X.F (sArgs fs))) (hb : PK X kws (LA X.F (sArgs gs))) (hdb : (x == ("__debug__" : Str)) = false) (he : starEach (a :: es) X.env = (false, eval a X.env) :: starEach es X.env) (hpl : (backTo pos (starEach (a :: es) X.env)).any (·.1) = false) :
    PE X (.Call (.Name x p) (a :: es) kws pos) (LE X.F (sCall g (fs ++ gs))) := by
  have hn := (kw_names pos X.env kws).trans hkw
  have hlk : kws.length = ks.length := by simpa using congrArg List.length hkw
  have hn2 : ∀ (l : List (Option Str × Sem Value)) (ks : List (Str × PyData)), l.map (·.1) = ks.map (fun q => some q.1) → l.all (·.1.isSome) = true ∧ l.filterMap (·.1) = ks.map (·.1) ∧ l.any (·.1.isNone) = false := by
    intro l
    induction l with
    | nil =>
      intro ks e
      cases ks with
      | nil => exact ⟨rfl, rfl, rfl⟩
      | cons q r => cases e
    | cons q l ih =>
      intro ks e
      cases ks with
      | nil => cases e
      | cons q' r =>
        rw [List.map_cons, List.map_cons, List.cons.injEq] at e
        obtain ⟨i1, i2, i3⟩ := ih r e.2
        refine ⟨by rw [List.all_cons, e.1, i1]; rfl, by rw [List.filterMap_cons, e.1, i2]; rfl, by rw [List.any_cons, e.1, i3]; rfl⟩
  obtain ⟨m1, m2, m3⟩ := hn2 _ ks hn
  refine (pe_callN (ks := ks.map (·.1)) F hr hg hm hk B.kw pass0 ha hb m1 m2 hdb he (by rw [hpl, m3]; rfl)).weak fun σ H Q hq => ?_
  obtain ⟨Γ, S, ρ, v, S', hS, hE, hf, hc⟩ := hq
  unfold sCall at hf
  rw [sArgs_app] at hf
  obtain ⟨vs0, S0, h0, hf⟩ := R.bind_ok hf
  obtain ⟨vs, S1, h4, h5⟩ := R.bind_ok h0
  obtain ⟨ws, S2, h6, h5⟩ := R.bind_ok h5
  cases h5
  refine ⟨Γ, S, ρ, vs, _, hS, hE, h4, fun ρ1 H1 xs x1 hS1 q1 => ?_⟩
  refine ⟨Γ, S1, ρ1, ws, _, hS1, hE.ext x1, h6, fun ρ2 H2 ys x2 hS2 q2 => ?_⟩
  have l1 := len_args (K := X.F) h4
  have l2 := len_args (K := X.F) h6
  have l3 := Paired.length q1
  have l4 := Paired.length q2
  refine ⟨by omega, by rw [List.length_map]; omega, by rw [List.length_append]; omega, ρ2, _, _, v, S', hS2, pairedAppend (q1.ext x2) q2, hf, fun ρ3 H3 z x3 hS3 q3 => hc ρ3 H3 z ((x1.trans x2).trans x3) hS3 q3⟩
end

section
variable {X : Cx} {I : Inf} {call : Str → GL} {k : Nat} {rec : Inf → Expr → CR}
theorem Cok.u1 (C : Cok X I call k) : X.A.units + 64 < cLine := C.room.units
theorem bin_ok (C : Cok X I call k) {op : Operator} {g : G2} (h : binG op = some g) : OpR X (binaryOp op) (rD X.F g) := by
  cases op <;> cases h
  · exact opd_gAdd
  · exact opd_sub
  · exact opd_mul
  · exact opd_mod
  · exact opd_pow
  · exact opd_fdiv
theorem cmp_ok (C : Cok X I call k) {op : CmpOp} {g : G2} (h : cmpG op = some g) : OpR X (compareOp op) (rD X.F g) := by
  cases op <;> cases h
  · exact opd_eq C.u1
  · exact opd_ne C.u1
  · exact opd_lt C.u1
  · exact opd_le C.u1
  · exact opd_gt C.u1
  · exact opd_ge C.u1
  · exact opd_is
  · exact opd_isnot
  · exact opd_in C.u1
  · exact opd_notIn C.u1
theorem seqM_cons {α β : Type} {f : α → Option β} {a : α} {r : List α} {l : List β} (h : seqM f (a :: r) = some l) : ∃ b bs, f a = some b ∧ seqM f r = some bs ∧ l = b :: bs := by
  unfold seqM at h
  split at h
  · rename_i b e
    obtain ⟨bs, h1, h2⟩ := Option.map_eq_some_iff.mp h
    exact ⟨b, bs, e, h1, h2.symm⟩
  · cases h
theorem args_ok (hr : Sound call k rec) (C : Cok X I call k) : ∀ {es : List Expr} {fs : List SE}, es.all notStar = true → seqM (fun v => (rec I v).e) es = some fs → PA X es (LA X.F (sArgs fs))
  | [], fs, _, h => by
    cases h
    exact la_nil
  | e :: es, fs, hs, h => by
    obtain ⟨b, bs, h1, h2, rfl⟩ := seqM_cons h
    have hs' : notStar e = true ∧ es.all notStar = true := by simpa using hs
    exact la_cons ((hr I X e C).1 b h1) (args_ok hr C hs'.2 h2) (star_cons hs'.1)
theorem kws_ok (hr : Sound call k rec) (C : Cok X I call k) : ∀ {kws : List Keyword} {gs : List SE}, seqM (fun (v : Keyword) => (rec I v.value).e) kws = some gs → PK X kws (LA X.F (sArgs gs)) ∧ gs.length = kws.length
  | [], gs, h => by
    cases h
    exact ⟨lk_nil, rfl⟩
  | e :: es, fs, h => by
    obtain ⟨b, bs, h1, h2, rfl⟩ := seqM_cons h
    obtain ⟨h3, h4⟩ := kws_ok hr C h2
    obtain ⟨nm, v, kp⟩ := e
    exact ⟨lk_cons ((hr I X v C).1 b h1) h3, by show _ + 1 = _ + 1; rw [h4]⟩
theorem boolEs_ok (hr : Sound call k rec) (C : Cok X I call k) {op : BoolOp} {pos : Pos} : ∀ {es : List Expr} {fs : List SE} {f : SE}, seqM (fun v => (rec I v).e) es = some fs → boolEs op fs = some f → PE X (.BoolOp op es pos) (LE X.F f)
  | [], fs, f, h, h2 => by
    cases h
    cases h2
  | [e], fs, f, h, h2 => by
    obtain ⟨b, bs, h1, h3, rfl⟩ := seqM_cons h
    cases h3
    cases h2
    exact le_oneV ((hr I X e C).1 _ h1)
  | e :: e' :: es, fs, f, h, h2 => by
    obtain ⟨b, bs, h1, h3, rfl⟩ := seqM_cons h
    obtain ⟨b', bs', h4, h5, rfl⟩ := seqM_cons h3
    unfold boolEs at h2
    split at h2
    · rename_i g e1
      cases h2
      exact le_andV ((hr I X e C).1 _ h1) (boolEs_ok hr C h3 e1)
    · rename_i g e1
      cases h2
      exact le_orV ((hr I X e C).1 _ h1) (boolEs_ok hr C h3 e1)
    · cases h2
theorem boolTs_ok (hr : Sound call k rec) (C : Cok X I call k) {op : BoolOp} {pos : Pos} : ∀ {es : List Expr} {fs : List ST} {f : ST}, seqM (fun v => (rec I v).t) es = some fs → boolTs op fs = some f → PW X (.BoolOp op es pos) (LT X.F f)
  | [], fs, f, h, h2 => by
    cases h
    cases h2
  | [e], fs, f, h, h2 => by
    obtain ⟨b, bs, h1, h3, rfl⟩ := seqM_cons h
    cases h3
    cases h2
    cases op
    · exact lw_and1 ((hr I X e C).2 _ h1)
    · exact lw_or1 ((hr I X e C).2 _ h1)
  | e :: e' :: es, fs, f, h, h2 => by
    obtain ⟨b, bs, h1, h3, rfl⟩ := seqM_cons h
    obtain ⟨b', bs', h4, h5, rfl⟩ := seqM_cons h3
    unfold boolTs at h2
    split at h2
    · rename_i g e1
      cases h2
      exact lw_and ((hr I X e C).2 _ h1) (boolTs_ok hr C h3 e1)
    · rename_i g e1
      cases h2
      exact lw_or ((hr I X e C).2 _ h1) (boolTs_ok hr C h3 e1)
    · cases h2
theorem part_ok (hr : Sound call k rec) (C : Cok X I call k) {o : Option Expr} {f : Option SE} (h : partOf rec I o = some f) : PO X o (LO X.F f) := by
  cases o with
  | none =>
    cases h
    exact lo_none
  | some e =>
    obtain ⟨f0, h1, rfl⟩ := Option.map_eq_some_iff.mp (show (rec I e).e.map some = some f from h)
    exact lo_some ((hr I X e C).1 _ h1)
theorem glob_of (C : Cok X I call k) {x : Str} {e : GE} (h : (if glB I.sc x = true then I.G.lookup x else none) = some e) : Gl X x ∧ GOk X call k x e := by
  split at h
  · rename_i hg
    exact ⟨gl_of C hg, C.glob x e h⟩
  · cases h
/-- the built-in functions -/
theorem bi_call (C : Cok X I call k) (hr : Sound call k rec) {b : Bi} {g : GL} {x : Str} {p pos : Pos} {a : Expr} {r : List Expr} {fs : List SE} (hb : biG b = some g) (hg : Gl X x) (hk : GOk X call k x (.blt b)) (ho : okName x = true) (hs : (a :: r).all notStar = true)
    (hf : seqM (fun v => (rec I v).e) (a :: r) = some fs) : PE X (.Call (.Name x p) (a :: r) [] pos) (LE X.F (sCall g fs)) := by
  obtain ⟨hm, e⟩ := hk
  obtain ⟨o1, o2, o3⟩ := ok_of ho
  have hs' : notStar a = true ∧ r.all notStar = true := by simpa using hs
  have ha := args_ok hr C hs hf
  have hst := star_cons (env := X.env) (es := r) hs'.1
  have hbk := back_any (env := X.env) pos hs'.2
  cases b <;> cases hb <;> subst e
  · exact le_callB cd_len hg hm (by decide +kernel) ha o3 o1 hst hbk
  · exact le_callB cd_abs hg hm (by decide +kernel) ha o3 o1 hst hbk
  · exact le_callTy cd_int hg hm (by decide +kernel) ha o3 o1 hst hbk
  · exact le_callB (cd_max C.calm) hg hm (by decide +kernel) ha o3 o1 hst hbk
  · exact le_callB (cd_min C.calm) hg hm (by decide +kernel) ha o3 o1 hst hbk
  · exact le_callTy cd_str hg hm (by decide +kernel) ha o3 o1 hst hbk
  · exact le_callB cd_ord hg hm (by decide +kernel) ha o3 o1 hst hbk
  · exact le_callTy (cd_list C.calm) hg hm (by decide +kernel) ha o3 o1 hst hbk
  · exact le_callTy cd_tuple hg hm (by decide +kernel) ha o3 o1 hst hbk
  · exact le_callB (cd_all C.calm) hg hm (by decide +kernel) ha o3 o1 hst hbk
  · exact le_callB (cd_any C.calm) hg hm (by decide +kernel) ha o3 o1 hst hbk
  · exact le_callB (cd_sorted C.u1) hg hm (by decide +kernel) ha o3 o1 hst hbk
  · exact le_callB (cd_sum C.calm) hg hm (by decide +kernel) ha o3 o1 hst hbk
theorem bi_callN (C : Cok X I call k) (hr : Sound call k rec) {b : Bi} {nw : Bool} {n : Nat} {g : GL} {x : Str} {p pos : Pos} {a : Expr} {r : List Expr} {fs : List SE} (hb : biGN b nw n = some g) (hg : Gl X x) (hk : GOk X call k x (.blt b)) (ho : okName x = true) (hs : (a :: r).all notStar = true)
    (hf : seqM (fun v => (rec I v).e) (a :: r) = some fs) : PE X (.Call (.Name x p) (a :: r) [] pos) (LE X.F (sCall g fs)) := by
  unfold biGN at hb
  split at hb
  · cases hb
    obtain ⟨hm, e⟩ := hk
    obtain ⟨o1, o2, o3⟩ := ok_of ho
    have hs' : notStar a = true ∧ r.all notStar = true := by simpa using hs
    subst e
    exact le_callTy cd_listN hg hm (by decide +kernel) (args_ok hr C hs hf) o3 o1 (star_cons hs'.1) (back_any _ hs'.2)
  · cases hb
    obtain ⟨hm, e⟩ := hk
    obtain ⟨o1, o2, o3⟩ := ok_of ho
    have hs' : notStar a = true ∧ r.all notStar = true := by simpa using hs
    subst e
    exact le_callB (cd_max1 C.calm) hg hm (by decide +kernel) (args_ok hr C hs hf) o3 o1 (star_cons hs'.1) (back_any _ hs'.2)
  · cases hb
    obtain ⟨hm, e⟩ := hk
    obtain ⟨o1, o2, o3⟩ := ok_of ho
    have hs' : notStar a = true ∧ r.all notStar = true := by simpa using hs
    subst e
    exact le_callB (cd_min1 C.calm) hg hm (by decide +kernel) (args_ok hr C hs hf) o3 o1 (star_cons hs'.1) (back_any _ hs'.2)
  · exact bi_call C hr hb hg hk ho hs hf
theorem bi_ty {b : Bi} {ty : String} (h : biTy b = some ty) : ty ∈ isiTs ∧ bootBuiltins (biName b) = some (.type ty) := by
  cases b <;> cases h <;> exact ⟨by decide, by decide +kernel⟩
theorem met_ok {o a : Expr} {name : Str} {apos cpos : Pos} {fo fa : SE} {g : SE → SE → SE} (h : metG name = some g) (f : ∀ nm, M1 X o a nm apos cpos) (ho : PE X o (LE X.F fo)) (ha : PE X a (LE X.F fa)) : PE X (.Call (.Attribute o name apos) [a] [] cpos) (LE X.F (g fo fa)) := by
  unfold metG at h
  split at h
  · rename_i e
    cases h
    subst e
    exact le_append (f _) ho ha
  · split at h
    · rename_i e
      cases h
      subst e
      exact le_extend (f _) ho ha
    · split at h
      · rename_i e
        cases h
        subst e
        exact le_pop1 (f _) ho ha
      · split at h
        · rename_i e
          cases h
          subst e
          exact le_join (f _) ho ha
        · split at h
          · rename_i e
            cases h
            subst e
            exact le_starts (f _) ho ha
          · split at h
            · rename_i e
              cases h
              subst e
              exact le_split (f _) ho ha
            · cases h

/-! ### targets, what is walked -/
theorem name_ok (C : Cok X I call k) {e : Expr} {i : Nat} (h : nmPlace I e = some i) : PG X e (gName i) := by
  unfold nmPlace at h
  split at h
  · rename_i x p
    split at h
    · rename_i j ej
      split at h
      · rename_i hl
        cases h
        obtain ⟨h1, h2⟩ := loc_of C hl
        exact pg_name C.nd (by rw [C.N]; exact idxOf_ok ej) h1 h2
      · cases h
    · cases h
  · cases h
theorem names_ok (C : Cok X I call k) : ∀ {es : List Expr} {is : List Nat}, seqM (nmPlace I) es = some is → NmL X es is ∧ (assignEach es X.env).length = es.length ∧ (assignEach es X.env).findIdx? (·.1) = none ∧ is.length = es.length
  | [], is, h => by
    cases h
    exact ⟨.nil, rfl, rfl, rfl⟩
  | e :: es, is, h => by
    obtain ⟨i, js, h1, h2, rfl⟩ := seqM_cons h
    obtain ⟨h3, h4, h5, h6⟩ := names_ok C h2
    have hg := name_ok C h1
    unfold nmPlace at h1
    split at h1
    · refine ⟨.cons hg rfl h3, ?_, ?_, ?_⟩
      · show _ + 1 = _ + 1
        rw [h4]
      · show List.findIdx? (·.1) ((false, _) :: assignEach es X.env) = none
        rw [List.findIdx?_cons, h5]
        rfl
      · show _ + 1 = _ + 1
        rw [h6]
    · cases h1
theorem tg_ok (C : Cok X I call k) {e : Expr} {is : List Nat} {t : Tg} (h : tgOf I e = some (is, t)) : PG X e (LG X.F is t) := by
  unfold tgOf at h
  split at h
  · obtain ⟨i, h1, h2⟩ := Option.map_eq_some_iff.mp h
    cases h2
    exact lg_name (name_ok C h1)
  · obtain ⟨js, h1, h2⟩ := Option.map_eq_some_iff.mp h
    cases h2
    obtain ⟨h3, h4, h5, h6⟩ := names_ok C h1
    exact lg_tup C.calm h3 h4 h5 h6
  · cases h
theorem tup_of {tg : Expr} (h : isTup tg = true) : ∃ es k p, tg = .Tuple es k p := by
  cases tg <;> first | exact ⟨_, _, _, rfl⟩ | cases h
theorem it_ok (hr : Sound call k rec) (C : Cok X I call k) {tg e : Expr} {f : SI} (h : itOf rec I tg e = some f) : PI X tg e (LI X.F f) := by
  unfold itOf at h
  split at h
  · rename_i x p args pos
    split at h
    · rename_i eg
      obtain ⟨hg, hm, ex⟩ := glob_of C eg
      subst ex
      split at h
      · rename_i a
        split at h
        · rename_i hs
          obtain ⟨fa, h1, rfl⟩ := Option.map_eq_some_iff.mp h
          exact li_rng1 hg hm ((hr I X a C).1 _ h1) (star_cons hs)
        · cases h
      · rename_i a b
        split at h
        · rename_i hs
          split at h
          · rename_i fa fb h1 h2
            cases h
            exact li_rng2 hg hm ((hr I X a C).1 _ h1) ((hr I X b C).1 _ h2) (by rw [star_cons hs.1, star_cons hs.2]; rfl) (star_cons hs.2)
          · cases h
        · cases h
      · cases h
    · rename_i eg
      obtain ⟨hg, hm, ex⟩ := glob_of C eg
      subst ex
      split at h
      · rename_i a
        split at h
        · rename_i hs
          obtain ⟨es, kk, tp, rfl⟩ := tup_of hs.2
          obtain ⟨fa, h1, rfl⟩ := Option.map_eq_some_iff.mp h
          exact li_enum hg hm ((hr I X a C).1 _ h1) (star_cons hs.1)
        · cases h
      · cases h
    · rename_i eg
      obtain ⟨hg, hm, ex⟩ := glob_of C eg
      subst ex
      split at h
      · rename_i a
        split at h
        · rename_i hs
          obtain ⟨fa, h1, rfl⟩ := Option.map_eq_some_iff.mp h
          exact li_rev hg hm ((hr I X a C).1 _ h1) (star_cons hs)
        · cases h
      · cases h
    · obtain ⟨fa, h1, rfl⟩ := Option.map_eq_some_iff.mp h
      exact li_iter ((hr I X _ C).1 _ h1)
  · obtain ⟨fa, h1, rfl⟩ := Option.map_eq_some_iff.mp h
    exact li_iter ((hr I X _ C).1 _ h1)
theorem blk_cok (C : Cok X I call k) {scope : Scope} (s : Shared) (H : Hp) (cn : Addr) (cl : List (Str × Addr)) (fp : List Addr) : Cok (X.blk s H scope (compEnvC scope cl cn X.env) fp) (inBlk I scope) call k where
  N := C.N
  nd := C.nd
  sc := by
    show relS scope X.env.scope = relS scope I.sc
    rw [C.sc]
  calm := C.calm
  fn := fun h => by cases h
  xe := rfl
  room := C.room
  glob := fun x e h => C.glob x e h

theorem expr_ok (hr : Sound call k rec) (C : Cok X I call k) {e : Expr} {f : SE} (h : exprOf call rec I e = some f) : PE X e (LE X.F f) := by
  unfold exprOf at h
  split at h
  -- Name
  · rename_i x p
    split at h
    · rename_i ho
      obtain ⟨o1, o2, o3⟩ := ok_of ho
      split at h
      · rename_i i ei
        cases h
        split at ei
        · rename_i hv
          exact le_var (by rw [C.N]; exact idxOf_ok ei) (vis_of C hv) o1 o2
        · cases ei
      · split at h
        · rename_i d eg
          cases h
          obtain ⟨hg, u, v, hm, hv, hd⟩ := glob_of C eg
          exact le_con (pe_glob hg hm hv o1) fun H m => Rp.cov Cov.base _ _ hd
        · cases h
    · cases h
  -- Constant
  · rename_i c j p
    obtain ⟨d, h1, rfl⟩ := Option.map_eq_some_iff.mp h
    unfold constOf at h1
    split at h1
    · cases h1; exact le_con pe_int fun _ _ => .int _
    · cases h1; exact le_con pe_bl fun _ _ => .bl _
    · cases h1; exact le_con pe_non fun _ _ => .non
    · split at h1
      · rename_i ok
        cases h1
        exact le_con pe_str fun _ _ => .str _ ok
      · cases h1
    · cases h1
  -- BinOp
  · split at h
    · rename_i h1 h2 h3
      cases h
      exact le_bin (bin_ok C h3) ((hr I X _ C).1 _ h1) ((hr I X _ C).1 _ h2)
    · cases h
  · obtain ⟨fa, h1, rfl⟩ := Option.map_eq_some_iff.mp h
    exact le_un und_neg ((hr I X _ C).1 _ h1)
  · obtain ⟨fa, h1, rfl⟩ := Option.map_eq_some_iff.mp h
    exact le_notV ((hr I X _ C).1 _ h1)
  -- Compare
  · split at h
    · rename_i hn
      split at h
      · rename_i h1 h2 h3
        cases h
        exact le_cmp (cmp_ok C h3) ((hr I X _ C).1 _ h1) ((hr I X _ C).1 _ h2) (noMark hn _)
      · cases h
    · cases h
  · split at h
    · rename_i fs e1
      exact boolEs_ok hr C e1 h
    · cases h
  · split at h
    · rename_i h1 h2 h3
      cases h
      exact le_ifExp ((hr I X _ C).2 _ h1) ((hr I X _ C).1 _ h2) ((hr I X _ C).1 _ h3)
    · cases h
  -- slices
  · split at h
    · rename_i h1 h2 h3
      cases h
      exact le_slice ((hr I X _ C).1 _ h1) (part_ok hr C h2) (part_ok hr C h3)
    · cases h
  · obtain ⟨fa, h1, rfl⟩ := Option.map_eq_some_iff.mp h
    exact le_back ((hr I X _ C).1 _ h1)
  · split at h
    · rename_i hn
      split at h
      · rename_i h1 h2
        cases h
        exact le_ix C.u1 ((hr I X _ C).1 _ h1) ((hr I X _ C).1 _ h2) (plainIx_of hn)
      · cases h
    · cases h
  -- displays
  · split at h
    · rename_i hs
      obtain ⟨fs, h1, rfl⟩ := Option.map_eq_some_iff.mp h
      exact le_tup (args_ok hr C hs h1)
    · cases h
  · split at h
    · rename_i hs
      obtain ⟨fs, h1, rfl⟩ := Option.map_eq_some_iff.mp h
      split
      · exact le_new (args_ok hr C hs h1)
      · exact le_lst (args_ok hr C hs h1)
    · cases h
  -- calls
  · rename_i x p args pos
    split at h
    · rename_i ho
      obtain ⟨ho, hs⟩ := ho
      obtain ⟨o1, o2, o3⟩ := ok_of ho
      split at h
      · rename_i n eg
        obtain ⟨hg, f0, fd, ps, hm, hk, hb, F⟩ := glob_of C eg
        split at h
        · rename_i fs e1
          split at h
          · rename_i hl
            cases h
            subst hl
            cases args with
            | nil =>
              cases e1
              exact le_call0 F C.room hg hm hk hb o1
            | cons a r =>
              have hs' : notStar a = true ∧ r.all notStar = true := by simpa using hs
              exact le_call F C.room hg hm hk hb (args_ok hr C hs e1) o1 (star_cons hs'.1) (back_any _ hs'.2)
          · cases h
        · cases h
      · rename_i n ks eg
        obtain ⟨hg, f0, fd, ps, hm, hk, hb, F⟩ := glob_of C eg
        split at h
        · rename_i fs e1
          split at h
          · rename_i hl
            cases h
            cases args with
            | nil =>
              cases e1
              exact absurd hl.1 (Nat.ne_of_lt hl.2)
            | cons a r =>
              have hs' : notStar a = true ∧ r.all notStar = true := by simpa using hs
              exact le_callD F C.room hg hm hk hb hl.1 (args_ok hr C hs e1) o1 (star_cons hs'.1) (back_any _ hs'.2)
          · cases h
        · cases h
      · rename_i eg
        obtain ⟨hg, hm, ex⟩ := glob_of C eg
        subst ex
        split at h
        · rename_i a T tp
          split at h
          · rename_i b eb
            obtain ⟨hgT, hmT, eT⟩ := glob_of C eb
            split at h
            · rename_i fa ty h1 h2
              cases h
              subst eT
              obtain ⟨b1, b2⟩ := bi_ty h2
              have hs' : notStar a = true := by
                have h7 := List.all_eq_true.mp hs a List.mem_cons_self
                exact h7
              refine le_isi b1 hg hm ((hr I X _ C).1 _ h1) hgT hmT b2 ?_ ?_ (star_cons hs')
              · cases b <;> cases h2 <;> decide +kernel
              · cases b <;> cases h2 <;> decide +kernel
            · cases h
          · cases h
        · cases h
      · rename_i b eg
        obtain ⟨hg, hk⟩ := glob_of C eg
        split at h
        · split at h
          · rename_i fs g h1 h2
            cases h
            exact bi_callN C hr h2 hg hk ho hs h1
          · cases h
        · cases h
      · cases h
    · cases h
  · split at h
    · rename_i hs
      split at h
      · rename_i en
        subst en
        split at h
        · rename_i ys eys
          obtain ⟨fa, h1, rfl⟩ := Option.map_eq_some_iff.mp h
          unfold conT at eys
          split at eys
          · rename_i x p
            split at eys
            · rename_i ho
              split at eys
              · rename_i ds eg
                obtain ⟨hg, u, v, hm, hv, hd⟩ := glob_of C eg
                exact le_indexC hg hm hv hd eys (ok_of ho).1 (m1_of hs.1 hs.2.1 hs.2.2) ((hr I X _ C).1 _ h1)
              · cases eys
            · cases eys
          · cases eys
        · split at h
          · rename_i fo fa h1 h2
            cases h
            split
            · exact le_indexT (by have := C.room.un; omega) (m1_of hs.1 hs.2.1 hs.2.2) ((hr I X _ C).1 _ h1) ((hr I X _ C).1 _ h2)
            · exact le_index (by have := C.room.un; omega) (m1_of hs.1 hs.2.1 hs.2.2) ((hr I X _ C).1 _ h1) ((hr I X _ C).1 _ h2)
          · cases h
      split at h
      · rename_i en
        subst en
        split at h
        · rename_i fo fa h1 h2
          cases h
          exact le_get C.u1 (base_of _ hs.1) hs.2.2 (star_cons hs.2.1) rfl (back_any _ (by rw [List.all_cons, hs.2.1]; rfl)) (show 1 < 30 by decide) ((hr I X _ C).1 _ h1) (la_cons ((hr I X _ C).1 _ h2) la_nil (star_cons hs.2.1))
        · cases h
      · split at h
        · rename_i h1 h2 h3
          cases h
          exact met_ok h3 (fun nm => m1_of hs.1 hs.2.1 hs.2.2) ((hr I X _ C).1 _ h1) ((hr I X _ C).1 _ h2)
        · cases h
    · cases h
  · split at h
    · rename_i hs
      obtain ⟨fo, h1, rfl⟩ := Option.map_eq_some_iff.mp h
      obtain ⟨h2, h3, rfl⟩ := hs
      exact le_pop0 (base_of _ h2) h3 ((hr I X _ C).1 _ h1)
    · cases h
  · rename_i o name apos a b cpos
    split at h
    · rename_i hs
      obtain ⟨hs1, hs2, hs3, hs4⟩ := hs
      subst hs4
      split at h
      · rename_i fo fa fb h1 h2 h3
        cases h
        have hall : [a, b].all notStar = true := by rw [List.all_cons, List.all_cons, hs2.1, hs2.2]; rfl
        exact le_get C.u1 (base_of _ hs1) hs3 (star_cons hs2.1) (back_any _ (by rw [List.all_cons, hs2.2]; rfl)) (back_any _ hall) (show 2 < 30 by decide) ((hr I X _ C).1 _ h1) (la_cons ((hr I X _ C).1 _ h2) (la_cons ((hr I X _ C).1 _ h3) la_nil (star_cons hs2.2)) (star_cons hs2.1))
      · cases h
    · cases h
  · rename_i x p a args kw kws pos
    split at h
    · rename_i ho
      obtain ⟨ho, hs⟩ := ho
      obtain ⟨o1, o2, o3⟩ := ok_of ho
      split at h
      · rename_i n ks eg
        obtain ⟨hg, f0, fd, ps, hm, hk, hb, F⟩ := glob_of C eg
        split at h
        · rename_i hkw
          split at h
          · rename_i fs gs e1 e2
            split at h
            · rename_i hl
              cases h
              have hs' : notStar a = true ∧ args.all notStar = true := by simpa using hs
              obtain ⟨k1, k2⟩ := kws_ok hr C e2
              exact le_callKw F C.room hg hm hk hb hl hkw k2 (args_ok hr C hs e1) k1 o1 (star_cons hs'.1) (back_any _ hs)
            · cases h
          · cases h
        · cases h
      · cases h
    · cases h
  · cases h
    split
    · exact le_dctN
    · exact le_dct0
  -- a comprehension
  · split at h
    · rename_i hs
      split at h
      · rename_i is t fi fe h1 h2 h3
        split at h
        · rename_i hin
          have hin' : ∀ i ∈ is, i ∈ (ownOf I.N _).map (·.2) := fun i hi => of_decide_eq_true (List.all_eq_true.mp hin i hi)
          have ok : BlkOk X.N X.env.scope _ _ := blkOk_by (by rw [C.N, C.sc]; exact hs.1)
          split at h
          · cases h
            split
            · exact (pe_lc C.calm C.nd (it_ok hr C h2) ok (fun s H cn cl fp => tg_ok (blk_cok C s H cn cl fp) h1) (fun s H cn cl fp => lts_nil) (fun s H cn cl fp => (hr _ _ _ (blk_cok C s H cn cl fp)).1 _ h3) (noFold hs.2 _)).weak fun σ H Q q => le_compN hin' q
            · exact (pe_lc C.calm C.nd (it_ok hr C h2) ok (fun s H cn cl fp => tg_ok (blk_cok C s H cn cl fp) h1) (fun s H cn cl fp => lts_nil) (fun s H cn cl fp => (hr _ _ _ (blk_cok C s H cn cl fp)).1 _ h3) (noFold hs.2 _)).weak fun σ H Q q => le_comp hin' q
          · obtain ⟨tc, h4, rfl⟩ := Option.map_eq_some_iff.mp h
            split
            · exact (pe_lc C.calm C.nd (it_ok hr C h2) ok (fun s H cn cl fp => tg_ok (blk_cok C s H cn cl fp) h1) (fun s H cn cl fp => lts_one ((hr _ _ _ (blk_cok C s H cn cl fp)).2 _ h4)) (fun s H cn cl fp => (hr _ _ _ (blk_cok C s H cn cl fp)).1 _ h3) (noFold hs.2 _)).weak fun σ H Q q => le_compN hin' q
            · exact (pe_lc C.calm C.nd (it_ok hr C h2) ok (fun s H cn cl fp => tg_ok (blk_cok C s H cn cl fp) h1) (fun s H cn cl fp => lts_one ((hr _ _ _ (blk_cok C s H cn cl fp)).2 _ h4)) (fun s H cn cl fp => (hr _ _ _ (blk_cok C s H cn cl fp)).1 _ h3) (noFold hs.2 _)).weak fun σ H Q q => le_comp hin' q
          · cases h
        · cases h
      · cases h
    · cases h
  · cases h
theorem test_ok (hr : Sound call k rec) (C : Cok X I call k) {e : Expr} {t : ST} (h : testOf rec (exprOf call rec I e) I e = some t) : PT X e (LT X.F t) := by
  unfold testOf at h
  split at h
  · obtain ⟨f, h1, rfl⟩ := Option.map_eq_some_iff.mp h
    simp only [exprOf] at h1
    split at h1
    · rename_i hn
      split at h1
      · rename_i h2 h3 h4
        cases h1
        exact lt_cmp (cmp_ok C h4) ((hr I X _ C).1 _ h2) ((hr I X _ C).1 _ h3) (noMark hn _)
      · cases h1
    · cases h1
  · obtain ⟨f, h1, rfl⟩ := Option.map_eq_some_iff.mp h
    exact lt_not ((hr I X _ C).2 _ h1)
  · split at h
    · rename_i fs e1
      exact (boolTs_ok hr C e1 h).pt
    · cases h
  · split at h
    · rename_i hp
      obtain ⟨f, h1, rfl⟩ := Option.map_eq_some_iff.mp h
      exact lt_val (expr_ok hr C h1) (plain_of hp)
    · cases h
theorem frz_ok {I : Inf} {X : Cx} {e : Expr} {o : Option SE} (h : ∀ g, o = some g → PE X e (LE X.F g)) {f : SE} (hf : o.map (frz I e) = some f) : PE X e (LE X.F f) := by
  cases o with
  | none => cases hf
  | some g =>
    have hf := Option.some.inj hf
    have h1 := h g rfl
    subst hf
    unfold frz
    split
    · split
      · exact h1.weak fun σ H Q hq => fr_le hq
      · exact h1
    · exact h1
theorem ts_ok (hr : Sound call k rec) (C : Cok X I call k) : ∀ {es : List Expr} {t : ST}, tsOf rec I es = some t → PTs X es (LT X.F t)
  | [], t, h => by cases h; exact lts_nil
  | [c], t, h => lts_one ((hr I X _ C).2 _ h)
  | _ :: _ :: _, t, h => by cases h
theorem xtra_ok (hr : Sound call k rec) (C : Cok X I call k) {e : Expr} {f : SE} (h : xtraOf rec I e = some f) : PE X e (LE X.F f) := by
  unfold xtraOf at h
  split at h
  · split at h
    · split at h
      · rename_i h1 h2
        cases h
        exact le_dct1 C.u1 ((hr I X _ C).1 _ h1) ((hr I X _ C).1 _ h2)
      · cases h
    · cases h
  · split at h
    · rename_i hn
      split at h
      · rename_i h1 h2 h3 h4 h5
        cases h
        exact le_chain (cmp_ok C h4) (cmp_ok C h5) ((hr I X _ C).1 _ h1) ((hr I X _ C).1 _ h2) ((hr I X _ C).1 _ h3) (noMark hn _)
      · cases h
    · cases h
  · split at h
    · split at h
      · rename_i h1 h2
        cases h
        exact le_bin opd_gAddN ((hr I X _ C).1 _ h1) ((hr I X _ C).1 _ h2)
      · cases h
    · cases h
  · split at h
    · rename_i hn
      split at h
      · rename_i h1 h2
        obtain ⟨fa, h3, rfl⟩ := Option.map_eq_some_iff.mp h
        obtain ⟨g1, m1, e1⟩ := glob_of C h1
        obtain ⟨g2, m2, e2⟩ := glob_of C h2
        subst e1
        subst e2
        exact le_lrg C.calm g1 m1 g2 m2 ((hr I X _ C).1 _ h3) (star_cons hn)
      · cases h
    · cases h
  · split at h
    · rename_i hs
      split at h
      · rename_i is t fi is1 t1 fi1 fe h1 h2 h3 h4 h5
        split at h
        · rename_i hin
          have hin1 : ∀ i ∈ is, i ∈ (ownOf I.N _).map (·.2) := fun i hi => of_decide_eq_true (List.all_eq_true.mp hin.1 i hi)
          have hin2 : ∀ i ∈ is1, i ∈ (ownOf I.N _).map (·.2) := fun i hi => of_decide_eq_true (List.all_eq_true.mp hin.2 i hi)
          have ok : BlkOk X.N X.env.scope _ _ := blkOk_by (by rw [C.N, C.sc]; exact hs.1)
          split at h
          · rename_i c c1 h6 h7
            cases h
            exact (pe_lc2 C.calm C.nd (it_ok hr C h2) ok hin2 (fun s H cn cl fp => tg_ok (blk_cok C s H cn cl fp) h1) (fun s H cn cl fp => ts_ok hr (blk_cok C s H cn cl fp) h6) (fun s H cn cl fp => it_ok hr (blk_cok C s H cn cl fp) h4) (fun s H cn cl fp => tg_ok (blk_cok C s H cn cl fp) h3)
              (fun s H cn cl fp => ts_ok hr (blk_cok C s H cn cl fp) h7) (fun s H cn cl fp => (hr _ _ _ (blk_cok C s H cn cl fp)).1 _ h5) (noFold hs.2.1 _) (fun _ => noFold hs.2.2 _)).weak fun σ H Q q => le_comp2 hin1 (fun i hi => hi) q
          · cases h
        · cases h
      · cases h
    · cases h
  · cases h
theorem xtraT_ok (hr : Sound call k rec) (C : Cok X I call k) {e : Expr} {t : ST} (h : xtraT rec I e = some t) : PT X e (LT X.F t) := by
  unfold xtraT at h
  split at h
  · split at h
    · rename_i hn
      split at h
      · rename_i h1 h2 h3 h4 h5
        cases h
        exact lt_chain (cmp_ok C h4) (cmp_ok C h5) ((hr I X _ C).1 _ h1) ((hr I X _ C).1 _ h2) ((hr I X _ C).1 _ h3) (noMark hn _)
      · cases h
    · cases h
  · cases h
theorem exprX_ok (hr : Sound call k rec) (C : Cok X I call k) {e : Expr} {f : SE} (h : exprX call rec I e = some f) : PE X e (LE X.F f) := by
  unfold exprX at h
  split at h
  · rename_i h1
    cases h
    exact xtra_ok hr C h1
  · exact expr_ok hr C h
theorem testX_ok (hr : Sound call k rec) (C : Cok X I call k) {e : Expr} {t : ST} (h : testX call rec I e = some t) : PT X e (LT X.F t) := by
  unfold testX at h
  split at h
  · rename_i h1
    cases h
    exact xtraT_ok hr C h1
  · exact test_ok hr C h
theorem cE_ok (call : Str → GL) (k : Nat) : ∀ n, Sound call k (cE call n)
  | 0 => fun I X e C => ⟨(fun f h => by cases h), (fun t h => by cases h)⟩
  | n + 1 => fun I X e C => ⟨fun f h => frz_ok (fun g hg => exprX_ok (cE_ok call k n) C hg) h, fun t h => testX_ok (cE_ok call k n) C h⟩
end
end L2.Pv

set_option Elab.async false
set_option linter.all false
set_option maxRecDepth 100000
namespace L2.Pv
open PySem PySem.Spec PyProof.Rows L2

/-! ### statements of the text -/
def kindFn (sc : Scope) : Bool := match sc.kind with
  | .function => true
  | _ => false
def lcSw (sc : Scope) (y : Str) (py : Pos) (scope : Scope) (pos : Pos) : Bool :=
  (match sc.names.lookup y with | some .local => true | _ => false) && (py.line == pos.line) && !(scope.names.any fun (n, kd) => n == y && (kd == .local || kd == .cell))
def locN (sc : Scope) (x : Str) : Bool := match sc.names.lookup x with
  | some .local => true
  | _ => false
/-- a, b, c = x, y, z: stored from the right -/
def parOk (sc : Scope) (x y z : Str) (px py pz : Pos) (vs : List Expr) : Bool := kindFn sc && locN sc x && locN sc y && locN sc z && (py.line == px.line) && (pz.line == px.line) && !(x == y) && !(x == z) && !(y == z) && vs.all notStar && !vs.all (foldedForSure 8) && !vs.all (constantsAlone 8)
def stmtOf (ss : Inf → List Stmt → SS) (call : Str → GL) (n : Nat) (I : Inf) (st : Stmt) : SS := match st with
  | .Pass _ => sSkip
  | .Break _ => sBrk
  | .Continue _ => sCnt
  | .Expr e _ => match e with
    | .Constant (.str _) _ _ => sSkip
    | e => if notComp e = true then match (cE call n I e).e with
        | some f => sDrop f
        | none => sBad
      else sBad
  | .Return (some e) _ => match (cE call n I e).e with
    | some f => sRet f
    | none => sBad
  | .Return none _ => sRetN
  | .If c a b _ => match (cE call n I c).t with
    | some t => sIte t (ss I a) (ss I b)
    | none => sBad
  | .While c b [] _ => match (cE call n I c).t with
    | some t => sWhile t (ss I b)
    | none => sBad
  | .For tg it b [] _ => if notSet it = true then match tgOf I tg, itOf (cE call n) I tg it with
      | some (_, t), some f => sFor f t (ss I b)
      | _, _ => sBad
    else sBad
  | .Assign [.Name x p] e _ => match nmPlace I (.Name x p), (cE call n I e).e with
    | some i, some f => if notComp e = true then sSet i f else match e with
      | .ListComp _ [⟨_, _, _, 0⟩] _ _ => if kindFn I.sc = true then sSet i f else sBad
      | _ => sBad
    | _, _ => sBad
  | .Assign [.Tuple [.Name x px, .Name y py, .Name z pz] kk p] (.Tuple [a, b, c] k2 p2) _ => if parOk I.sc x y z px py pz [a, b, c] = true then match (cE call n I a).e, (cE call n I b).e, (cE call n I c).e, idxOf I.N x, idxOf I.N y, idxOf I.N z with
      | some fa, some fb, some fc, some i, some j, some l => sPar3 i j l fa fb fc
      | _, _, _, _, _, _ => sBad
    else sBad
  | .Assign [.Tuple es kk p] e _ => if notTuple e = true ∨ 4 ≤ es.length then match tgOf I (.Tuple es kk p), (cE call n I e).e with
      | some (_, t), some f => sAsg t f
      | _, _ => sBad
    else sBad
  | .Assign [.Subscript o i _] e _ => if notSlice i = true then match (cE call n I o).e, (cE call n I i).e, (cE call n I e).e with
      | some fo, some fi, some fe => sPut fo fi fe
      | _, _, _ => sBad
    else sBad
  | _ => sBad
/-- the names that stand for data from this statement on -/
def fzs (l : List (Nat × Nat)) (p : Nat) (f : SS) : SS := match l with
  | [] => f
  | q :: r => if q.1 = p then sFz q.2 (fzs r p f) else fzs r p f
def cSs (call : Str → GL) (n : Nat) : Nat → Inf → List Stmt → SS
  | 0, _, _ => sBad
  | m + 1, I, sts => match sts with
    | [] => sSkip
    | [st] => fzs I.fz (posKey st.pos) (stmtOf (cSs call n m) call n I st)
    | st :: r => sSeq (fzs I.fz (posKey st.pos) (stmtOf (cSs call n m) call n I st)) (cSs call n m I r)

section
variable {X : Cx} {I : Inf} {call : Str → GL} {k n : Nat}
theorem frz_lc {I : Inf} {o : Option SE} {elt : Expr} {gs : List Comprehension} {scope : Scope} {pos : Pos} {f : SE} (h : o.map (frz I (.ListComp elt gs scope pos)) = some f) : o = some f := by
  cases o with
  | none => cases h
  | some g => exact h
theorem xtra_lc {rec : Inf → Expr → CR} {elt tg it : Expr} {ifs : List Expr} {scope : Scope} {pos : Pos} : exprX call rec I (.ListComp elt [⟨tg, it, ifs, 0⟩] scope pos) = exprOf call rec I (.ListComp elt [⟨tg, it, ifs, 0⟩] scope pos) := rfl
theorem lc_inv {rec : Inf → Expr → CR} (hr : Sound call k rec) (C : Cok X I call k) {elt tg it : Expr} {ifs : List Expr} {scope : Scope} {pos : Pos} {f : SE} (h : exprOf call rec I (.ListComp elt [⟨tg, it, ifs, 0⟩] scope pos) = some f) :
    ∃ (own : List (Str × Nat)) (wi : TI) (g : TG) (tt : TT) (te : TE), PI X tg it wi ∧ BlkOk X.N X.env.scope scope own ∧ (∀ (s : Shared) (H : Hp) (cn : Addr) (cl : List (Str × Addr)) (fp : List Addr), PG (X.blk s H scope (compEnvC scope cl cn X.env) fp) tg g) ∧
      (∀ (s : Shared) (H : Hp) (cn : Addr) (cl : List (Str × Addr)) (fp : List Addr), PTs (X.blk s H scope (compEnvC scope cl cn X.env) fp) ifs tt) ∧ (∀ (s : Shared) (H : Hp) (cn : Addr) (cl : List (Str × Addr)) (fp : List Addr), PE (X.blk s H scope (compEnvC scope cl cn X.env) fp) elt te) ∧
      (∀ x, foldedSetIterable it X.env x = pure x) ∧ ∀ σ H Q, LE X.F f σ H Q → tLc wi g tt te (own.map (·.2)) σ H Q := by
  simp only [exprOf] at h
  split at h
  · rename_i hs
    split at h
    · rename_i is t fi fe h1 h2 h3
      split at h
      · rename_i hin
        have hin' : ∀ i ∈ is, i ∈ (ownOf I.N scope.names).map (·.2) := fun i hi => of_decide_eq_true (List.all_eq_true.mp hin i hi)
        have ok : BlkOk X.N X.env.scope scope (ownOf I.N scope.names) := blkOk_by (by rw [C.N, C.sc]; exact hs.1)
        split at h
        · cases h
          exact ⟨_, _, _, _, _, it_ok hr C h2, ok, fun s H cn cl fp => tg_ok (blk_cok C s H cn cl fp) h1, fun s H cn cl fp => lts_nil, fun s H cn cl fp => (hr _ _ _ (blk_cok C s H cn cl fp)).1 _ h3, noFold hs.2 _, fun σ H Q q => by
            split at q
            · exact le_compN hin' q
            · exact le_comp hin' q⟩
        · obtain ⟨tc, h4, rfl⟩ := Option.map_eq_some_iff.mp h
          exact ⟨_, _, _, _, _, it_ok hr C h2, ok, fun s H cn cl fp => tg_ok (blk_cok C s H cn cl fp) h1, fun s H cn cl fp => lts_one ((hr _ _ _ (blk_cok C s H cn cl fp)).2 _ h4), fun s H cn cl fp => (hr _ _ _ (blk_cok C s H cn cl fp)).1 _ h3, noFold hs.2 _, fun σ H Q q => by
            split at q
            · exact le_compN hin' q
            · exact le_comp hin' q⟩
        · cases h
      · cases h
    · cases h
  · cases h
theorem swaps_lc {elt : Expr} {gs : List Comprehension} {scope : Scope} {pos py : Pos} {y : Str} {l : Nat} {env : PySem.Env} (hk : env.scope.kind = .function) :
    swapsWith (.ListComp elt gs scope pos) (some (.Name y py)) l env = pure (lcSw env.scope y py scope pos) := by
  have hb : env.blockKind = .function := by unfold Env.blockKind; rw [hk]; rfl
  unfold swapsWith lcSw
  simp only [hb, Expr.pos, Env.kindOf]
  cases h : env.scope.names.lookup y with
  | none => rfl
  | some kd => cases kd <;> rfl
theorem swaps_sole {t e : Expr} {l : Nat} {env : PySem.Env} : swapsWithSole [t] e l env = swapsWith e (some t) l env := rfl
theorem assign_sub {o i : Expr} {p : Pos} {env : PySem.Env} (h : notSlice i = true) : ∀ v, assign (.Subscript o i p) env v = (do
      let ov ← holding [v] (eval o env)
      let iv ← holding [v, ov] (eval i env)
      standAt p
      holding [v, ov, iv] (setItem ov iv v)
      release [v, ov, iv] []) := by
  cases i <;> first | (intro _; rfl) | cases h
theorem stores_nl {es : List Expr} {kk p e} {env : PySem.Env} (h : notTuple e = true ∨ 4 ≤ es.length) : swappedStores [.Tuple es kk p] e env = pure none := by
  rcases h with h | h
  · exact stores_none _ h
  · cases e with
    | Tuple vs k2 p2 =>
      have h1 : (!(es.length == 2 || es.length == 3) || vs.length != es.length || env.blockKind != .function) = true := by
        have h2 : (es.length == 2) = false := by rw [beq_eq_false_iff_ne]; omega
        have h3 : (es.length == 3) = false := by rw [beq_eq_false_iff_ne]; omega
        rw [h2, h3]
        rfl
      unfold swappedStores
      simp only [h1, if_true]
    | _ => rfl
theorem locN_of (C : Cok X I call k) {x : Str} (h : locN I.sc x = true) : X.env.scope.names.lookup x = some .local := by
  rw [C.sc]
  unfold locN at h
  split at h
  · assumption
  · cases h
theorem swapped3 {x y z : Str} {px py pz pt pt2 : Pos} {kt k2} {a b c : Expr} {env : PySem.Env} (hk : env.scope.kind = .function) (hx : env.scope.names.lookup x = some .local) (hy : env.scope.names.lookup y = some .local) (hz : env.scope.names.lookup z = some .local)
    (l1 : (py.line == px.line) = true) (l2 : (pz.line == px.line) = true) (n1 : (x == y) = false) (n2 : (x == z) = false) (n3 : (y == z) = false) (hs : [a, b, c].all notStar = true) (hf : [a, b, c].all (foldedForSure 8) = false) (hc : [a, b, c].all (constantsAlone 8) = false) :
    swappedStores [.Tuple [.Name x px, .Name y py, .Name z pz] kt pt] (.Tuple [a, b, c] k2 pt2) env = pure (some [x, y, z]) := by
  have hb : env.blockKind = .function := by unfold Env.blockKind; rw [hk]; rfl
  have hst : ([a, b, c].any fun | .Starred .. => true | _ => false) = false := by
    rw [List.any_eq_false]
    intro e he
    have h1 := List.all_eq_true.mp hs e he
    cases e <;> first | exact Bool.false_ne_true | cases h1
  have kx : env.kindOf x = some .local := hx
  have ky : env.kindOf y = some .local := hy
  have kz : env.kindOf z = some .local := hz
  have l1 : py.line = px.line := by simpa using l1
  have l2 : pz.line = px.line := by simpa using l2
  have n1 : x ≠ y := by simpa using n1
  have n2 : x ≠ z := by simpa using n2
  have n3 : y ≠ z := by simpa using n3
  have hnot : (!(([Expr.Name x px, .Name y py, .Name z pz] : List Expr).length == 2 || ([Expr.Name x px, .Name y py, .Name z pz] : List Expr).length == 3) || ([a, b, c] : List Expr).length != ([Expr.Name x px, .Name y py, .Name z pz] : List Expr).length || env.blockKind != .function) = false := by rw [hb]; rfl
  have e0 : (([Expr.Name x px, .Name y py, .Name z pz].head?.map (·.pos.line)).getD 0) = px.line := rfl
  have key : ∀ (g : Expr → Option Str), g (.Name x px) = some x → g (.Name y py) = some y → g (.Name z pz) = some z → [Expr.Name x px, .Name y py, .Name z pz].filterMap g = [x, y, z] := by
    intro g h1 h2 h3
    simp [List.filterMap_cons, h1, h2, h3]
  unfold swappedStores
  simp only [hnot, Bool.false_eq_true, if_false]
  split
  · rename_i h
    obtain ⟨e, he, h2⟩ := List.any_eq_true.mp h
    have h1 := List.all_eq_true.mp hs e he
    cases e <;> first | exact absurd h2 Bool.false_ne_true | exact absurd h1 Bool.false_ne_true
  · split
    · rename_i h
      exfalso
      rw [key _ (by simp [Expr.pos, kx]) (by simp [Expr.pos, ky, l1]) (by simp [Expr.pos, kz, l2])] at h
      simp [List.eraseDups_cons, n1, n2, n3, Ne.symm n1, Ne.symm n2, Ne.symm n3] at h
    · split
      · rename_i h
        rw [hf] at h
        cases h
      · split
        · rename_i h
          rw [hc] at h
          cases h
        · rw [key _ (by simp [Expr.pos, kx]) (by simp [Expr.pos, ky, l1]) (by simp [Expr.pos, kz, l2])]
theorem stmt_ok {ss : Inf → List Stmt → SS} (hss : ∀ sts, PSs X sts (LS X.F (ss I sts))) (C : Cok X I call k) (st : Stmt) : PS X st (LS X.F (stmtOf ss call n I st)) := by
  have hr := cE_ok call k n
  unfold stmtOf
  split
  · exact ls_pass
  · exact ls_brk
  · exact ls_cnt
  · split
    · exact ls_doc
    · split
      · rename_i hn
        split
        · rename_i h1
          exact ls_drop ((hr I X _ C).1 _ h1) (swaps_none hn _ _)
        · exact ls_bad
      · exact ls_bad
  · split
    · rename_i h1
      exact ls_ret ((hr I X _ C).1 _ h1)
    · exact ls_bad
  · exact ls_retN
  · split
    · rename_i h1
      exact ls_if ((hr I X _ C).2 _ h1) (hss _) (hss _)
    · exact ls_bad
  · split
    · rename_i h1
      exact ls_while C.xe ((hr I X _ C).2 _ h1) (hss _)
    · exact ls_bad
  · split
    · rename_i hn
      split
      · rename_i h1 h2
        exact ls_for C.xe C.calm (it_ok hr C h2) (tg_ok C h1) (hss _) (noFold hn _)
      · exact ls_bad
    · exact ls_bad
  · rename_i x p e pos
    split
    · rename_i i f h1 h2
      have hg := name_ok C h1
      simp only [nmPlace] at h1
      split at h1
      · rename_i j ej
        split at h1
        · rename_i hl
          cases h1
          obtain ⟨l1, l2⟩ := loc_of C hl
          have hN : X.N[i]? = some x := by rw [C.N]; exact idxOf_ok ej
          split
          · rename_i hn
            exact ls_set_of (t := tAsg (LE X.F f) (gName i)) (ps_set C.nd hN l1 ((hr I X _ C).1 _ h2) (swaps_none hn _ _) l2)
          · split
            · rename_i elt tg it ifs scope lpos _
              split
              · rename_i hk
                have hkf : X.env.scope.kind = .function := by
                  rw [C.sc]
                  unfold kindFn at hk
                  split at hk
                  · assumption
                  · cases hk
                cases hsw : lcSw X.env.scope x p scope lpos with
                | false => exact ls_set_of (t := tAsg (LE X.F f) (gName i)) (ps_set C.nd hN l1 ((hr I X _ C).1 _ h2) (by rw [swaps_lc hkf, hsw]) l2)
                | true =>
                  cases n with
                  | zero => cases h2
                  | succ n =>
                    obtain ⟨own, wi, g, tt, te, c1, c2, c3, c4, c5, c6, c7⟩ := lc_inv (pos := lpos) (cE_ok call k n) C (frz_lc h2)
                    have hyl : X.env.scope.names.lookup x = some .local := by
                      unfold lcSw at hsw
                      simp only [Bool.and_eq_true] at hsw
                      have q := hsw.1.1
                      split at q
                      · assumption
                      · cases q
                    refine ls_set_of (t := tAsg (LE X.F f) (gName i)) ((ps_setLc C.calm C.nd hN hyl (by rw [swaps_lc hkf, hsw]) c1 c2 c3 c4 c5 c6).weak fun D σ H q => ?_)
                    exact c7 σ H _ q
              · exact ls_bad
            · exact ls_bad
        · cases h1
      · cases h1
    · exact ls_bad
  · rename_i x px y py z pz kk p a b c k2 p2 pos
    split
    · rename_i hp
      unfold parOk at hp
      simp only [Bool.and_eq_true, Bool.not_eq_true'] at hp
      obtain ⟨⟨⟨⟨⟨⟨⟨⟨⟨⟨⟨q1, q2⟩, q3⟩, q4⟩, q5⟩, q6⟩, q7⟩, q8⟩, q9⟩, q10⟩, q11⟩, q12⟩ := hp
      split
      · rename_i fa fb fc i j l h1 h2 h3 h4 h5 h6
        have N1 : X.N[i]? = some x := by rw [C.N]; exact idxOf_ok h4
        have N2 : X.N[j]? = some y := by rw [C.N]; exact idxOf_ok h5
        have N3 : X.N[l]? = some z := by rw [C.N]; exact idxOf_ok h6
        have m1 : x ≠ y := by simpa using q7
        have m2 : x ≠ z := by simpa using q8
        have m3 : y ≠ z := by simpa using q9
        have hkf : X.env.scope.kind = .function := by
          rw [C.sc]
          unfold kindFn at q1
          split at q1
          · assumption
          · cases q1
        have sa : notStar a = true ∧ notStar b = true ∧ notStar c = true := by simpa using q10
        refine ls_par3 (fun ta hta => ps_par3 C.calm C.nd N1 N2 N3 (fun e => ?_) (fun e => ?_) (fun e => ?_) (locN_of C q2) (locN_of C q3) (locN_of C q4) hta (swapped3 hkf (locN_of C q2) (locN_of C q3) (locN_of C q4) q5 q6 q7 q8 q9 q10 q11 q12)) ((hr I X _ C).1 _ h1) ((hr I X _ C).1 _ h2) ((hr I X _ C).1 _ h3) (star_cons sa.1) (star_cons sa.2.1) (star_cons sa.2.2)
        · rw [e, N2] at N1; exact m1 (Option.some.inj N1).symm
        · rw [e, N3] at N1; exact m2 (Option.some.inj N1).symm
        · rw [e, N3] at N2; exact m3 (Option.some.inj N2).symm
      · exact ls_bad
    · exact ls_bad
  · split
    · rename_i hn
      split
      · rename_i h1 h2
        exact ls_asg ((hr I X _ C).1 _ h2) (tg_ok C h1) (by rw [swaps_sole]; exact swaps_tup _ _ (fun _ _ z => nomatch z)) (stores_nl hn) rfl
      · exact ls_bad
    · exact ls_bad
  · split
    · rename_i hn
      split
      · rename_i h1 h2 h3
        exact ls_put C.u1 ((hr I X _ C).1 _ h1) ((hr I X _ C).1 _ h2) ((hr I X _ C).1 _ h3) (by rw [swaps_sole]; exact swaps_tup _ _ (fun _ _ z => nomatch z)) (stores_none' _ rfl (fun _ _ z => nomatch z)) (assign_sub hn)
      · exact ls_bad
    · exact ls_bad
  · exact ls_bad
theorem fzs_ok {st : Stmt} {f : SS} {p : Nat} (h : PS X st (LS X.F f)) : ∀ l : List (Nat × Nat), PS X st (LS X.F (fzs l p f))
  | [] => h
  | q :: r => by
    unfold fzs
    split
    · exact ls_fz (fzs_ok h r)
    · exact fzs_ok h r
theorem cSs_ok (C : Cok X I call k) : ∀ (m : Nat) (sts : List Stmt), PSs X sts (LS X.F (cSs call n m I sts))
  | 0, sts => pss_never.weak fun D σ H ⟨Γ, S, ρ, fl, S', hS, hE, hf, hc⟩ => by cases hf
  | m + 1, sts => by
    unfold cSs
    split
    · exact ls_nil
    · exact ls_one (fzs_ok (stmt_ok (cSs_ok C m) C _) _)
    · exact ls_cons (fzs_ok (stmt_ok (cSs_ok C m) C _) _) (cSs_ok C m _)
end
end L2.Pv

set_option Elab.async false
set_option linter.all false
set_option maxRecDepth 100000
namespace L2.Pv
open PySem PySem.Spec PyProof.Rows L2

/-! ### defs -/
def fnEnd (keep : Bool) (n : Nat) : R Fl → R Vl
  | .ok (.rt v) S' => fin keep n v S'
  | .ok (.nx _) S' => fin keep n (.d .none) S'
  | _ => .bad
def fnSem (body : SS) (np nN : Nat) (keep : Bool) : GL := fun vs S =>
  if vs.length = np then fnEnd keep S.length (body (vs.map some ++ List.replicate (nN - np) none) S) else .bad
structure Ent where
  x : Str
  st : Stmt
  ps : List Str
  N : List Str
  keep : Bool
  new : List Nat
  fz : List (Nat × Nat)
  kw : List (Str × PyData)
  body : (Str → GL) → SS
def entAt (T : List Ent) (x : Str) : Option Ent := T.find? (·.x == x)
def run (T : List Ent) : Nat → Str → GL
  | 0, _ => fun _ _ => .bad
  | k + 1, x => match entAt T x with
    | some e => fnSem (e.body (run T k)) e.ps.length e.N.length e.keep
    | none => fun _ _ => .bad
structure EntOk (G : List (Str × GE)) (e : Ent) : Prop where
  body : ∀ call, cSs call 40 400 ⟨e.N, defScope e.st, false, G, e.new, e.fz⟩ (defBody e.st) = e.body call
  sc : FnScope e.N e.ps (defScope e.st)
/-- how a def is called -/
def BdOk (K : Fg) (fd : FuncData) (ps : List Str) : List (Str × PyData) → Prop
  | [] => Binds K.K fd ps []
  | q :: r => FkB K fd ps (ps.length - (q :: r).length) (q :: r) ∧ (q :: r).length ≤ ps.length
structure TabOk (K : Fg) (mg : Str → Option Value) (G : List (Str × GE)) (T : List Ent) : Prop where
  st : ∀ e ∈ T, EntOk G e
  fn : ∀ e ∈ T, ∃ f fd, Fun K.K e.x e.x e.st f fd ∧ mg e.x = some (.ref f) ∧ BdOk K fd e.ps e.kw
  gl : ∀ x b, G.lookup x = some (.blt b) → mg x = none ∧ x = biName b
  gc : ∀ x d, G.lookup x = some (.con d) → ∃ u v, mg x = some u ∧ RelV v u ∧ Rp K HN [] v d
  gf : ∀ x n, G.lookup x = some (.fn n) → ∃ e, entAt T x = some e ∧ e.ps.length = n ∧ e.kw = []
  gk : ∀ x n ks, G.lookup x = some (.fk n ks) → ∃ e, entAt T x = some e ∧ e.ps.length = n + ks.length ∧ e.kw = ks ∧ ks ≠ []

section
variable {P : Program} {w : World} {K : Fg} {mg : Str → Option Value} {base : Heap} {G : List (Str × GE)} {T : List Ent} {ρ ρ' : Pl} {S S1 S' : Sto} {H H' : Hp}
theorem enr_start {vs : List V} {ds : List Vl} (h : VrL K H ρ vs ds) (n : Nat) : EnR K H ρ (vs.map some ++ List.replicate n none) (ds.map some ++ List.replicate n none) := by
  refine pairedAppend ?_ ?_
  · induction h with
    | nil => exact .nil
    | cons a b ih => exact .cons (fun v e => by cases e; exact ⟨_, rfl, a⟩) ih
  · induction n with
    | zero => exact .nil
    | succ n ih =>
      rw [List.replicate_succ, List.replicate_succ]
      exact .cons (fun v e => by cases e) ih
theorem entAt_mem {x : Str} {e : Ent} (h : entAt T x = some e) : e ∈ T ∧ e.x = x := by
  unfold entAt at h
  exact ⟨List.mem_of_find?_eq_some h, by simpa using List.find?_some h⟩
/-- every def keeps what its body means -/
theorem fn_all {K : PySem.W.Frag} (ok : TabOk ⟨K, w⟩ mg G T) : ∀ (k : Nat) (x : Str) (e : Ent), entAt T x = some e →
    ∃ f fd, mg x = some (.ref f) ∧ PySem.W.keepIn K (.ref f) = true ∧ BdOk ⟨K, w⟩ fd e.ps e.kw ∧ Fun K e.x e.x e.st f fd ∧ FnOk P w K mg base CX0 k f fd e.ps (SpD ⟨K, w⟩ e.ps.length (run T k x))
  | 0, x, e, he => by
    obtain ⟨hm, rfl⟩ := entAt_mem he
    obtain ⟨f, fd, F, hmg, hb⟩ := ok.fn e hm
    refine ⟨f, fd, hmg, F.kp, hb, F, ⟨fun vs H Q E h => h.1, fun A outer s H args us vs Q E hr e0 hbd hv h => ?_⟩⟩
    obtain ⟨_, ρ, S, ds, r, S', _, _, hg, _⟩ := h
    cases hg
  | k + 1, x, e, he => by
    obtain ⟨hm, rfl⟩ := entAt_mem he
    obtain ⟨f, fd, F, hmg, hb⟩ := ok.fn e hm
    have E0 := ok.st e hm
    refine ⟨f, fd, hmg, F.kp, hb, F, F.ok E0.sc (fun vs H Q E h => h.1) fun cdv A outer s H vs Q E hr h => ?_⟩
    obtain ⟨hl, ρ, S, ds, r, S', hS, hv, hg, hc⟩ := h
    generalize hX : (cxOf CX0 P w K mg base e.N e.x (defScope e.st) f cdv A outer s H E).nox = X
    have C : Cok X ⟨e.N, defScope e.st, false, G, e.new, e.fz⟩ (run T k) k := by
      subst hX
      refine ⟨rfl, E0.sc.nd, rfl, rfl, fun _ _ => rfl, rfl, hr, fun y ge hy => ?_⟩
      cases ge with
      | blt b => exact ok.gl y b hy
      | con d => exact ok.gc y d hy
      | fn n =>
        obtain ⟨e', he', hn, hkw⟩ := ok.gf y n hy
        obtain ⟨f', fd', h1, h2, h3, _, h4⟩ := fn_all ok k y e' he'
        rw [hkw] at h3
        exact ⟨f', fd', e'.ps, h1, h2, h3, by rw [← hn]; exact h4⟩
      | fk n ks =>
        obtain ⟨e', he', hn, hkw, hne⟩ := ok.gk y n ks hy
        obtain ⟨f', fd', h1, h2, h3, _, h4⟩ := fn_all ok k y e' he'
        rw [hkw] at h3
        cases ks with
        | nil => exact absurd rfl hne
        | cons q r =>
          obtain ⟨h3, h5⟩ := h3
          have : e'.ps.length - (q :: r).length = n := by omega
          rw [this] at h3
          exact ⟨f', fd', e'.ps, h1, h2, h3, by rw [← hn]; exact h4⟩
    have body := cSs_ok (n := 40) C 400 (defBody e.st)
    rw [E0.body] at body
    refine ⟨_, body, ?_⟩
    have hK : X.F = ⟨K, w⟩ := by subst hX; rfl
    rw [hK]
    simp only [run, he, fnSem] at hg
    split at hg
    · rename_i hdl
      have hvl := Paired.length hv
      cases hb2 : e.body (run T k) (ds.map some ++ List.replicate (e.N.length - e.ps.length) none) S with
      | bad =>
        rw [hb2] at hg
        cases hg
      | ok fl S1 =>
        rw [hb2] at hg
        refine ⟨_, S, ρ, fl, S1, hS, ?_, hb2, ?_⟩
        · show EnR ⟨K, w⟩ H ρ (start e.N vs) _
          unfold start
          rw [hl]
          exact enr_start hv _
        · cases fl with
          | nx Γ =>
            exact fun ρ' H' σ' hx hS' hE' => by
              obtain ⟨ρ2, g1, g2, g3⟩ := fin_ok (keep := e.keep) hS hx hS' (v := .d .none) (x := .non) (show Rp _ _ _ _ _ from .non) hg
              exact hc ρ2 H' _ g1 g2 g3
          | rt v =>
            exact fun ρ' H' y hx hS' hy => by
              obtain ⟨ρ2, g1, g2, g3⟩ := fin_ok hS hx hS' hy hg
              exact hc ρ2 H' _ g1 g2 g3
          | bk Γ => cases hg
          | ct Γ => cases hg
    · cases hg
/-- the law -/
theorem law_sp {k : Nat} {a : Addr} {ns : List Int} {T : List Ent} (hS : SqL K.K H a (ns.map V.int)) (h : run T k "law" [.k (ns.map .int)] [] = .ok (.d (.bool true)) []) : SpD K 1 (run T k "law") [.ref a] H (fun v _ => v = .bl true) fun _ _ _ => False := by
  refine ⟨rfl, ⟨[], []⟩, [], [.k (ns.map .int)], .d (.bool true), [], ⟨List.nodup_nil, (fun a h => by cases h), (fun a h => by cases h), .nil⟩, .cons ⟨a, ns.map V.int, rfl, ?_, RpL.map (fun i => .int i) ns⟩ .nil, h, fun ρ' H' x _ _ hx => ?_⟩
  · rcases hS with hS | hS
    · exact .inl ⟨hS, by simp⟩
    · exact .inr hS
  · cases (show Rp _ _ _ _ _ from hx)
    rfl
end
end L2.Pv

set_option Elab.async false
set_option linter.all false
set_option maxRecDepth 100000
namespace L2.Pv
open PySem PySem.Spec PyProof.Rows L2
/-- a def with one keyword-only parameter, None where it is not written -/
theorem fkb_mk {K : PySem.W.Frag} {w : World} {x qual q : Str} {st : Stmt} {f D : Addr} {oc : Value} {od an : Option Addr} {osl : Array (Option Value)} {doc pm cdv ct : Value} {ps : List Str} {n : Nat}
    (l : K.lookup f = some ⟨oc, od, .func (PySem.W.fnOf x qual (defArgs st) (defBody st) (defScope st) .none (.ref D) doc pm an cdv ct), osl⟩) (c : PySem.W.codeIn K cdv qual = true) (k : PySem.W.keepIn K (.ref f) = true) (hn : n + 1 = ps.length) (hq : PySem.W.nsIn K D q = some (some .none))
    (h : ∀ (D : Addr) (doc pm : Value) (an : Option Addr) (cdv ct : Value) (us ks : List Value), us.length = n → ks.length = 1 → KwChain D ([q].zip ks) (bindArgs (PySem.W.fnOf x qual (defArgs st) (defBody st) (defScope st) .none (.ref D) doc pm an cdv ct) ⟨us, []⟩) (ps.zip (us ++ ks)))
    (h2 : ∀ (D : Addr) (doc pm : Value) (an : Option Addr) (cdv ct : Value) (us ws : List Value), us.length = n → ws.length = 1 → bindArgs (PySem.W.fnOf x qual (defArgs st) (defBody st) (defScope st) .none (.ref D) doc pm an cdv ct) ⟨us, [q].zip ws⟩ = pure (ps.zip (us ++ ws))) :
    FkB ⟨K, w⟩ (PySem.W.fnOf x qual (defArgs st) (defBody st) (defScope st) .none (.ref D) doc pm an cdv ct) ps n [(q, .none)] := by
  have F : FunD K x qual (defArgs st) (defBody st) (defScope st) [] [(q, V.non)] f (PySem.W.fnOf x qual (defArgs st) (defBody st) (defScope st) .none (.ref D) doc pm an cdv ct) :=
    ⟨⟨oc, od, .none, .ref D, doc, pm, an, cdv, ct, osl, rfl, l, c, .inl ⟨rfl, rfl⟩, .inr ⟨D, rfl, fun p hp => by rw [List.mem_singleton.mp hp]; exact ⟨_, hq, rfl⟩⟩⟩, k⟩
  refine ⟨?_, fun s us ws X l1 l2 => .of_eq (h2 D doc pm an cdv ct us ws l1 l2), fun r1 r2 => r1.append r2⟩
  obtain ⟨ds, r, b⟩ := F.binds0 (ps := ps) n (by simp) (by simpa using hn) fun D doc pm an cdv ct us ks l1 l2 => h D doc pm an cdv ct us ks l1 l2
  exact ⟨[.non], ds, r, .cons .non .nil, b⟩
end L2.Pv

set_option Elab.async false
set_option linter.all false
set_option maxRecDepth 100000
namespace L2.Pv
open PySem PySem.Spec PyProof.Rows L2

/-! ### what a meaning satisfies -/
def R.Sat {α : Type} (r : R α) (Q : α → Sto → Prop) : Prop := match r with
  | .ok a S => Q a S
  | .bad => False
theorem Sat_ok {α : Type} {a : α} {S : Sto} {Q : α → Sto → Prop} : (R.ok a S).Sat Q = Q a S := rfl
theorem Sat_bad {α : Type} {Q : α → Sto → Prop} : (R.bad : R α).Sat Q = False := rfl
theorem R.Sat.of_eq {α : Type} {r : R α} {a : α} {S : Sto} {Q : α → Sto → Prop} (e : r = .ok a S) (h : Q a S) : r.Sat Q := by rw [e]; exact h
theorem R.Sat.eq {α : Type} {r : R α} {a : α} {S : Sto} (h : r.Sat fun b S' => b = a ∧ S' = S) : r = .ok a S := by
  cases r with
  | ok b S' => obtain ⟨rfl, rfl⟩ := h; rfl
  | bad => exact h.elim
theorem R.Sat.mono {α : Type} {r : R α} {Q Q' : α → Sto → Prop} (h : r.Sat Q) (f : ∀ a S, Q a S → Q' a S) : r.Sat Q' := by
  cases r with
  | ok b S' => exact f _ _ h
  | bad => exact h.elim
theorem Sat_bind {α β : Type} {r : R α} {f : α → Sto → R β} {Q : β → Sto → Prop} : (r.bind f).Sat Q = r.Sat fun a S => (f a S).Sat Q := by cases r <;> rfl
theorem R.Sat.bind {α β : Type} {r : R α} {f : α → Sto → R β} {P : α → Sto → Prop} {Q : β → Sto → Prop} (h : r.Sat P) (k : ∀ a S, P a S → (f a S).Sat Q) : (r.bind f).Sat Q := by
  rw [Sat_bind]
  exact h.mono k
/-- evaluation goes to the head alone -/
theorem bind_congr {α β : Type} {r r' : R α} {f : α → Sto → R β} (h : r = r') : r.bind f = r'.bind f := by rw [h]
theorem bind_okE {α β : Type} {a : α} {S : Sto} {f : α → Sto → R β} : (R.ok a S).bind f = f a S := rfl
theorem bind_badE {α β : Type} {f : α → Sto → R β} : (R.bad : R α).bind f = .bad := rfl
theorem Sat_congr {α : Type} {r r' : R α} {Q : α → Sto → Prop} (h : r = r') : r.Sat Q = r'.Sat Q := by rw [h]
/-- a choice -/
def pick {α : Type} (b : Bool) (x y : α) : α := if b = true then x else y
theorem pick_congr {α : Type} {b b' : Bool} {x y : α} (h : b = b') : pick b x y = pick b' x y := by rw [h]
theorem pick_t {α : Type} {x y : α} : pick true x y = x := rfl
theorem pick_f {α : Type} {x y : α} : pick false x y = y := rfl
theorem Sat_pick {α : Type} {b : Bool} {x y : R α} {Q : α → Sto → Prop} (h1 : b = true → x.Sat Q) (h2 : b = false → y.Sat Q) : (pick b x y).Sat Q := by
  cases b
  · exact h2 rfl
  · exact h1 rfl
theorem Sat_pickB {α β : Type} {b : Bool} {x y : R α} {f : α → Sto → R β} {Q : β → Sto → Prop} (h1 : b = true → (x.bind f).Sat Q) (h2 : b = false → (y.bind f).Sat Q) : ((pick b x y).bind f).Sat Q := by
  cases b
  · exact h2 rfl
  · exact h1 rfl

/-! ### the equations -/
section
variable {Γ : Env} {S : Sto}
theorem x_var {i : Nat} : sVar i Γ S = match Γ[i]? with | some (some v) => .ok v S | _ => .bad := rfl
theorem x_con {d : PyData} : sCon d Γ S = .ok (.d d) S := rfl
theorem x_bin {g : G2} {a b : SE} : sBin g a b Γ S = (a Γ S).bind fun x S1 => (b Γ S1).bind fun y S2 => g x y S2 := rfl
theorem x_un {g : G1} {a : SE} : sUn g a Γ S = (a Γ S).bind fun x S1 => g x S1 := rfl
theorem x_args0 : sArgs [] Γ S = .ok [] S := rfl
theorem x_args {f : SE} {fs : List SE} : sArgs (f :: fs) Γ S = (f Γ S).bind fun v S1 => (sArgs fs Γ S1).bind fun vs S2 => .ok (v :: vs) S2 := rfl
theorem x_call {g : GL} {fs : List SE} : sCall g fs Γ S = (sArgs fs Γ S).bind g := rfl
theorem x_tst {a : SE} : sTst a Γ S = (a Γ S).bind fun v S1 => match boolOf v with | some b => .ok b S1 | none => .bad := rfl
theorem x_tru {a : SE} : sTru a Γ S = (a Γ S).bind fun v S1 => match gTru v S1 with | some b => .ok b S1 | none => .bad := rfl
theorem x_not {a : ST} : sNot a Γ S = (a Γ S).bind fun b S1 => .ok (!b) S1 := rfl
theorem x_and {a b : ST} : sAnd a b Γ S = (a Γ S).bind fun x S1 => pick x (b Γ S1) (.ok false S1) := rfl
theorem x_or {a b : ST} : sOr a b Γ S = (a Γ S).bind fun x S1 => pick x (.ok true S1) (b Γ S1) := rfl
theorem x_if {c : ST} {a b : SE} : sIf c a b Γ S = (c Γ S).bind fun x S1 => pick x (a Γ S1) (b Γ S1) := rfl
theorem x_andV {a b : SE} : sAndV a b Γ S = (a Γ S).bind fun x S1 => match boolOf x with | some k => pick k (b Γ S1) (.ok (.d (.bool false)) S1) | none => .bad := by
  unfold sAndV
  congr
  funext x S1
  cases h : boolOf x with
  | none => rfl
  | some k => cases k <;> rfl
theorem x_orV {a b : SE} : sOrV a b Γ S = (a Γ S).bind fun x S1 => match boolOf x with | some k => pick k (.ok (.d (.bool true)) S1) (b Γ S1) | none => .bad := by
  unfold sOrV
  congr
  funext x S1
  cases h : boolOf x with
  | none => rfl
  | some k => cases k <;> rfl
theorem x_notV {a : SE} : sNotV a Γ S = (a Γ S).bind fun x S1 => match boolOf x with | some k => .ok (.d (.bool (!k))) S1 | none => .bad := rfl
theorem x_sl {a : SE} {lo hi : Option SE} : sSl a lo hi Γ S = (a Γ S).bind fun x S1 => (sPart lo Γ S1).bind fun l S2 => (sPart hi Γ S2).bind fun h S3 => gSl x l h S3 := rfl
theorem x_part0 : sPart none Γ S = .ok none S := rfl
theorem x_part {f : SE} : sPart (some f) Γ S = (f Γ S).bind fun v S1 => match intOf v with | some i => .ok (some i) S1 | none => .bad := rfl
theorem x_metO {g : Vl → GL} {a : SE} {fs : List SE} : sMetO g a fs Γ S = (a Γ S).bind fun x S1 => match x with
  | .o n => match lstOf S1 n with
    | some _ => (sArgs fs Γ S1).bind fun vs S2 => g x vs S2
    | none => .bad
  | _ => .bad := rfl
theorem x_metS {g : Vl → GL} {a : SE} {fs : List SE} : sMetS g a fs Γ S = (a Γ S).bind fun x S1 => match x with
  | .d (.str _) => (sArgs fs Γ S1).bind fun vs S2 => g x vs S2
  | _ => .bad := rfl
theorem x_metT {g : Vl → GL} {a : SE} {fs : List SE} : sMetT g a fs Γ S = (a Γ S).bind fun x S1 => (sArgs fs Γ S1).bind fun vs S2 => g x vs S2 := rfl
theorem x_metD {g : Vl → GL} {a : SE} {fs : List SE} : sMetD g a fs Γ S = (a Γ S).bind fun x S1 => match dcV S1 x with
  | some _ => (sArgs fs Γ S1).bind fun vs S2 => g x vs S2
  | none => .bad := rfl
theorem x_dct0 : sDct0 Γ S = .ok (.d (.dict [])) S := rfl
theorem x_dct1 {k v : SE} : sDct1 k v Γ S = (k Γ (S ++ [.dct []])).bind fun kv S1 => (v Γ S1).bind fun vv S2 => match kv with
  | .d kd => match vv with
    | .d vd => match dctOf S2 S.length with
      | some [] => pick (keyB kd) (.ok (.o S.length) (S2.set S.length (.dct [(kd, vd)]))) .bad
      | _ => .bad
    | _ => .bad
  | _ => .bad := by
  unfold sDct1 pick
  rfl
theorem x_addNll {a b : List PyData} : gAddN (.d (.list a)) (.d (.list b)) S = pick (decide (a.length + b.length ≤ SZ)) (.ok (.o S.length) (S ++ [.lst (a ++ b)])) .bad := by
  show (if a.length + b.length ≤ SZ then _ else _) = _
  unfold pick
  simp only [decide_eq_true_eq]
theorem x_addNol {n : Nat} {b : List PyData} : gAddN (.o n) (.d (.list b)) S = match lstOf S n with | some a => pick (decide (a.length + b.length ≤ SZ)) (.ok (.o S.length) (S ++ [.lst (a ++ b)])) .bad | none => .bad := by
  show (match lstOf S n with | some a => if a.length + b.length ≤ SZ then _ else _ | none => _) = _
  unfold pick
  simp only [decide_eq_true_eq]
theorem x_addNlo {n : Nat} {a : List PyData} : gAddN (.d (.list a)) (.o n) S = match lstOf S n with | some b => pick (decide (a.length + b.length ≤ SZ)) (.ok (.o S.length) (S ++ [.lst (a ++ b)])) .bad | none => .bad := by
  show (match lstOf S n with | some b => if a.length + b.length ≤ SZ then _ else _ | none => _) = _
  unfold pick
  simp only [decide_eq_true_eq]
theorem x_par3 {i j l : Nat} {a b c : SE} : sPar3 i j l a b c Γ S = (a Γ S).bind fun u S1 => (b Γ S1).bind fun v S2 => (c Γ S2).bind fun w S3 => .ok (.nx (((Γ.set i (some u)).set j (some v)).set l (some w))) S3 := rfl
theorem x_chain {g h : G2} {a b c : SE} : sChain g h a b c Γ S = (a Γ S).bind fun x S1 => (b Γ S1).bind fun y S2 => (g x y S2).bind fun z S3 => match boolOf z with
  | some k => pick k ((c Γ S3).bind fun u S4 => h y u S4) (.ok (.d (.bool false)) S3)
  | none => .bad := by
  unfold sChain
  congr
  funext x S1
  congr
  funext y S2
  congr
  funext z S3
  cases boolOf z with
  | none => rfl
  | some k => cases k <;> rfl
theorem x_lrg {a : SE} : sLrg a Γ S = (a Γ S).bind fun v S1 => match intOf v with
  | some j => pick (decide (-(2 ^ 62) ≤ j ∧ j ≤ 16777216)) (.ok (.d (.list (rngIts 0 j.toNat))) S1) .bad
  | none => .bad := by
  unfold sLrg
  congr
  funext v S1
  cases intOf v with
  | none => rfl
  | some j =>
    unfold pick
    simp only [decide_eq_true_eq]
theorem x_dctN : sDctN Γ S = .ok (.o S.length) (S ++ [.dct []]) := rfl
theorem x_fz {i : Nat} {b : SS} : sFz i b Γ S = match Γ[i]? with
  | some (some (.o n)) => match lstOf S n with
    | some ds => b (Γ.set i (some (.d (.list ds)))) (S.set n .dead)
    | none => match dctOf S n with
      | some kds => b (Γ.set i (some (.d (.dict kds)))) (S.set n .dead)
      | none => b Γ S
  | _ => b Γ S := by
  unfold sFz lstOf dctOf
  cases Γ[i]? with
  | none => rfl
  | some o =>
    cases o with
    | none => rfl
    | some v =>
      cases v with
      | d d => rfl
      | k ds => rfl
      | o n =>
        dsimp only
        cases S[n]? with
        | none => rfl
        | some o => cases o <;> rfl
theorem x_skip : sSkip Γ S = .ok (.nx Γ) S := rfl
theorem x_seq {a b : SS} : sSeq a b Γ S = (a Γ S).bind fun f S1 => sThen f S1 b := rfl
theorem x_thenN {b : SS} : sThen (.nx Γ) S b = b Γ S := rfl
theorem x_thenR {v : Vl} {b : SS} : sThen (.rt v) S b = .ok (.rt v) S := rfl
theorem x_thenB {b : SS} : sThen (.bk Γ) S b = .ok (.bk Γ) S := rfl
theorem x_thenC {b : SS} : sThen (.ct Γ) S b = .ok (.ct Γ) S := rfl
theorem x_drop {e : SE} : sDrop e Γ S = (e Γ S).bind fun _ S1 => .ok (.nx Γ) S1 := rfl
theorem x_ret {e : SE} : sRet e Γ S = (e Γ S).bind fun v S1 => .ok (.rt v) S1 := rfl
theorem x_retN : sRetN Γ S = .ok (.rt (.d .none)) S := rfl
theorem x_ite {c : ST} {a b : SS} : sIte c a b Γ S = (c Γ S).bind fun x S1 => pick x (a Γ S1) (b Γ S1) := rfl
theorem x_set {i : Nat} {e : SE} : sSet i e Γ S = (e Γ S).bind fun v S1 => .ok (.nx (Γ.set i (some v))) S1 := rfl
theorem x_asg {t : Tg} {e : SE} : sAsg t e Γ S = (e Γ S).bind fun v S1 => match v with
  | .d d => match t d Γ with
    | some Γ' => .ok (.nx Γ') S1
    | none => .bad
  | _ => .bad := rfl
theorem x_brk : sBrk Γ S = .ok (.bk Γ) S := rfl
theorem x_cnt : sCnt Γ S = .ok (.ct Γ) S := rfl
theorem x_put {o i e : SE} : sPut o i e Γ S = (e Γ S).bind fun v S1 => (o Γ S1).bind fun x S2 => (i Γ S2).bind fun y S3 => match gPut x y v S3 with
  | some S4 => .ok (.nx Γ) S4
  | none => .bad := rfl
theorem x_for {it : SI} {tg : Tg} {b : SS} : sFor it tg b Γ S = (it Γ S).bind fun src S1 => floop tg b src (fuelOf src) 0 Γ S1 := rfl
theorem x_iter {a : SE} : sIter a Γ S = (a Γ S).bind fun v S1 => match srcOf S1 v with | some s => .ok s S1 | none => .bad := rfl
theorem x_enum {a : SE} : sEnum a Γ S = (a Γ S).bind fun v S1 => match v with
  | .d (.tuple ds) => .ok (.its (enumIts ds)) S1
  | _ => .bad := rfl
theorem x_rev {a : SE} : sRev a Γ S = (a Γ S).bind fun v S1 => match v with
  | .d (.list ds) => .ok (.its ds.reverse) S1
  | .d (.tuple ds) => .ok (.its ds.reverse) S1
  | .o n => match lstOf S1 n with
    | some ds => .ok (.rv n ds.length) S1
    | none => .bad
  | _ => .bad := rfl
theorem x_yes : sYes Γ S = .ok true S := rfl
theorem x_rng1 {a : SE} : sRng1 a Γ S = (a Γ S).bind fun v S1 => match intOf v with
  | some j => pick (decide (-(2 ^ 62) ≤ j ∧ j < 2 ^ 62)) (.ok (.its (rngIts 0 j.toNat)) S1) .bad
  | none => .bad := by
  unfold sRng1 pick
  simp only [decide_eq_true_eq]
  all_goals rfl
theorem x_rng2 {a b : SE} : sRng2 a b Γ S = (a Γ S).bind fun v S1 => (b Γ S1).bind fun w S2 => match intOf v with
  | some i => match intOf w with
    | some j => pick (decide ((-(2 ^ 62) ≤ i ∧ i < 2 ^ 62) ∧ (-(2 ^ 62) ≤ j ∧ j < 2 ^ 62))) (.ok (.its (rngIts i (j - i).toNat)) S2) .bad
    | none => .bad
  | none => .bad := by
  unfold sRng2 pick
  simp only [decide_eq_true_eq]
  all_goals rfl
theorem x_compN {vs : List Nat} {it : SI} {tg : Tg} {tst : ST} {elt : SE} : sCompN vs it tg tst elt Γ S = (it Γ S).bind fun src S1 =>
  pick (decide (fuelOf src ≤ SZ)) ((cloop tg tst elt (wipeE Γ vs) src (fuelOf src) 0 S1).bind fun r S2 => .ok (.o S2.length) (S2 ++ [.lst r])) .bad := by
  unfold sCompN pick
  simp only [decide_eq_true_eq]
theorem x_comp2 {vs vs1 : List Nat} {it it1 : SI} {tg tg1 : Tg} {tst tst1 : ST} {elt : SE} : sComp2 vs vs1 it tg tst it1 tg1 tst1 elt Γ S = (it Γ S).bind fun src S1 =>
  (cloop2 tg tst it1 tg1 tst1 elt vs1 (wipeE Γ vs) src (fuelOf src) 0 S1).bind fun r S2 => pick (decide (r.length ≤ SZ)) (.ok (.d (.list r)) S2) .bad := by
  unfold sComp2 pick
  simp only [decide_eq_true_eq]
theorem x_comp {vs : List Nat} {it : SI} {tg : Tg} {tst : ST} {elt : SE} : sComp vs it tg tst elt Γ S = (it Γ S).bind fun src S1 =>
  pick (decide (fuelOf src ≤ SZ)) ((cloop tg tst elt (wipeE Γ vs) src (fuelOf src) 0 S1).bind fun r S2 => .ok (.d (.list r)) S2) .bad := by
  unfold sComp pick
  simp only [decide_eq_true_eq]
end

/-! ### loops over items -/
section
variable {tg : Tg} {b : SS} {tst : ST} {elt : SE}
theorem Sat_floop_at {all : List PyData} {Q : Fl → Sto → Prop} (I : List PyData → Env → Sto → Prop)
    (step : ∀ d rest Γ S, I (d :: rest) Γ S → ∃ Γ2, tg d Γ = some Γ2 ∧ (b Γ2 S).Sat fun fl S' => match fl with
      | .nx Γ' => I rest Γ' S'
      | .ct Γ' => I rest Γ' S'
      | .bk Γ' => Q (.nx Γ') S'
      | .rt v => Q (.rt v) S')
    (done : ∀ Γ S, I [] Γ S → Q (.nx Γ) S) : ∀ (n i : Nat) (Γ : Env) (S : Sto), i ≤ all.length → all.length - i < n → I (all.drop i) Γ S → (floop tg b (.its all) n i Γ S).Sat Q
  | 0, i, Γ, S, h0, h1, h2 => absurd h1 (Nat.not_lt_zero _)
  | n + 1, i, Γ, S, h0, h1, h2 => by
    unfold floop
    by_cases hi : i < all.length
    · rw [List.drop_eq_getElem_cons hi] at h2
      obtain ⟨Γ2, e1, e2⟩ := step _ _ _ _ h2
      simp only [nxt, List.getElem?_eq_getElem hi, e1]
      refine e2.bind fun fl S' h => ?_
      cases fl with
      | nx Γ' => exact Sat_floop_at I step done n (i + 1) Γ' S' hi (by omega) h
      | ct Γ' => exact Sat_floop_at I step done n (i + 1) Γ' S' hi (by omega) h
      | bk Γ' => exact h
      | rt v => exact h
    · have e : i = all.length := by omega
      subst e
      rw [List.drop_length] at h2
      simp only [nxt, List.getElem?_eq_none (Nat.le_refl _)]
      exact done _ _ h2
/-- a for over items: I by what is left -/
theorem Sat_for {all : List PyData} {Q : Fl → Sto → Prop} {Γ : Env} {S : Sto} (I : List PyData → Env → Sto → Prop) (h0 : I all Γ S)
    (step : ∀ d rest Γ S, I (d :: rest) Γ S → ∃ Γ2, tg d Γ = some Γ2 ∧ (b Γ2 S).Sat fun fl S' => match fl with
      | .nx Γ' => I rest Γ' S'
      | .ct Γ' => I rest Γ' S'
      | .bk Γ' => Q (.nx Γ') S'
      | .rt v => Q (.rt v) S')
    (done : ∀ Γ S, I [] Γ S → Q (.nx Γ) S) : (floop tg b (.its all) (fuelOf (.its all)) 0 Γ S).Sat Q :=
  Sat_floop_at I step done _ 0 Γ S (Nat.zero_le _) (Nat.lt_succ_self _) h0
theorem Sat_cloop_at {all : List PyData} {Γ : Env} {Q : List PyData → Sto → Prop} (I : List PyData → List PyData → Sto → Prop)
    (step : ∀ d rest acc S, I (d :: rest) acc S → ∃ Γ2, tg d Γ = some Γ2 ∧ (tst Γ2 S).Sat fun k S1 => (pick k ((elt Γ2 S1).bind fun v S2 => .ok (some v) S2) (.ok none S1)).Sat fun o S2 => match o with
      | some (.d y) => I rest (acc ++ [y]) S2
      | some _ => False
      | none => I rest acc S2)
    (done : ∀ acc S, I [] acc S → Q acc S) : ∀ (n i : Nat) (acc : List PyData) (S : Sto), i ≤ all.length → all.length - i < n → I (all.drop i) acc S → (cloop tg tst elt Γ (.its all) n i S).Sat fun r S' => Q (acc ++ r) S'
  | 0, i, Γ, S, h0, h1, h2 => absurd h1 (Nat.not_lt_zero _)
  | n + 1, i, acc, S, h0, h1, h2 => by
    unfold cloop
    by_cases hi : i < all.length
    · rw [List.drop_eq_getElem_cons hi] at h2
      obtain ⟨Γ2, e1, e2⟩ := step _ _ _ _ h2
      simp only [nxt, List.getElem?_eq_getElem hi, e1]
      refine e2.bind fun k S1 h => ?_
      cases k with
      | true =>
        rw [if_pos rfl]
        rw [pick_t, Sat_bind] at h
        refine h.bind fun v S2 h => ?_
        cases v with
        | d y =>
          refine (Sat_cloop_at I step done n (i + 1) (acc ++ [y]) S2 hi (by omega) h).bind fun r S3 h => ?_
          show Q (acc ++ y :: r) S3
          rw [List.append_assoc] at h
          exact h
        | o m => exact h.elim
        | k ds => exact h.elim
      | false =>
        rw [if_neg Bool.false_ne_true]
        exact Sat_cloop_at I step done n (i + 1) acc S1 hi (by omega) h
    · have e : i = all.length := by omega
      subst e
      rw [List.drop_length] at h2
      simp only [nxt, List.getElem?_eq_none (Nat.le_refl _)]
      show Q (acc ++ []) S
      rw [List.append_nil]
      exact done _ _ h2
/-- a comprehension over items: I by what is left and what is made -/
theorem Sat_comp {all : List PyData} {Γ : Env} {S : Sto} {Q : List PyData → Sto → Prop} (I : List PyData → List PyData → Sto → Prop) (h0 : I all [] S)
    (step : ∀ d rest acc S, I (d :: rest) acc S → ∃ Γ2, tg d Γ = some Γ2 ∧ (tst Γ2 S).Sat fun k S1 => (pick k ((elt Γ2 S1).bind fun v S2 => .ok (some v) S2) (.ok none S1)).Sat fun o S2 => match o with
      | some (.d y) => I rest (acc ++ [y]) S2
      | some _ => False
      | none => I rest acc S2)
    (done : ∀ acc S, I [] acc S → Q acc S) : (cloop tg tst elt Γ (.its all) (fuelOf (.its all)) 0 S).Sat Q :=
  (Sat_cloop_at I step done _ 0 [] S (Nat.zero_le _) (Nat.lt_succ_self _) h0).mono fun a S h => by rwa [List.nil_append] at h
end

/-! ### defs -/
theorem Sat_fn {body : SS} {np nN : Nat} {keep : Bool} {vs : List Vl} {S : Sto} {Q : Vl → Sto → Prop} (hl : vs.length = np) (h : (body (vs.map some ++ List.replicate (nN - np) none) S).Sat fun fl S' => match fl with
      | .rt v => (fin keep S.length v S').Sat Q
      | .nx _ => (fin keep S.length (.d .none) S').Sat Q
      | _ => False) : (fnSem body np nN keep vs S).Sat Q := by
  unfold fnSem
  rw [if_pos hl]
  revert h
  generalize body (vs.map some ++ List.replicate (nN - np) none) S = r
  intro h
  cases r with
  | bad => exact h.elim
  | ok fl S' =>
    cases fl with
    | rt v => exact h
    | nx Γ => exact h
    | bk Γ => exact h.elim
    | ct Γ => exact h.elim
end L2.Pv

set_option Elab.async false
set_option linter.all false
set_option maxRecDepth 100000
namespace L2.Pv
open PySem PySem.Spec PyProof.Rows L2

theorem bind_assoc {α β γ : Type} {r : R α} {f : α → Sto → R β} {g : β → Sto → R γ} : (r.bind f).bind g = r.bind fun a S => (f a S).bind g := by cases r <;> rfl
/-! ### data -/
section
variable {S : Sto}
theorem v_bool {b : Bool} : boolOf (.d (.bool b)) = some b := rfl
theorem v_int {i : Int} : intOf (.d (.int i)) = some i := rfl
theorem v_dat2 {h : PyData → PyData → Option PyData} {a b : PyData} : dat2 h (.d a) (.d b) S = lft S (h a b) := rfl
theorem v_cmp2 {h : PyData → PyData → Option PyData} {a b : PyData} : cmp2 h (.d a) (.d b) S = lft S (h a b) := rfl
theorem v_cmpO {h : PyData → PyData → Option PyData} {n : Nat} {b : PyData} : cmp2 h (.o n) (.d b) S = match lstOf S n with | some ds => lft S (h (.list ds) b) | none => match dctOf S n with | some kds => lft S (h (.dict kds) b) | none => .bad := by
  cases e : lstOf S n with
  | some ds => simp only [cmp2, rdV, e]
  | none => cases e2 : dctOf S n <;> simp only [cmp2, rdV, e, e2, Option.map]
theorem v_cmpP {h : PyData → PyData → Option PyData} {n : Nat} {b : PyData} : cmp2 h (.d b) (.o n) S = match lstOf S n with | some ds => lft S (h b (.list ds)) | none => match dctOf S n with | some kds => lft S (h b (.dict kds)) | none => .bad := by
  cases e : lstOf S n with
  | some ds => simp only [cmp2, rdV, e]
  | none => cases e2 : dctOf S n <;> simp only [cmp2, rdV, e, e2, Option.map]
theorem v_dat1 {h : PyData → Option PyData} {a : PyData} : dat1 h (.d a) S = lft S (h a) := rfl
theorem v_lft {c : PyData} : lft S (some c) = .ok (.d c) S := rfl
theorem v_arg1 {g : G1} {a : Vl} : arg1 g [a] S = g a S := rfl
theorem v_arg2 {g : G2} {a b : Vl} : arg2 g [a, b] S = g a b S := rfl
theorem v_gAdd {a b : PyData} : gAdd (.d a) (.d b) S = lft S (dAdd a b) := rfl
theorem v_gAddO {n : Nat} {b : List PyData} : gAdd (.o n) (.d (.list b)) S = addL S (lstOf S n) (some b) := rfl
theorem v_gAddP {n : Nat} {b : List PyData} : gAdd (.d (.list b)) (.o n) S = addL S (some b) (lstOf S n) := rfl
theorem v_gAddQ {n m : Nat} : gAdd (.o m) (.o n) S = addL S (lstOf S m) (lstOf S n) := rfl
theorem v_addLL {a b : List PyData} : addL S (some a) (some b) = pick (decide (a.length + b.length ≤ SZ)) (.ok (.d (.list (a ++ b))) S) .bad := by simp only [addL, pick, decide_eq_true_eq]
theorem v_listN {ds : List PyData} : gListN (.d (.list ds)) S = .ok (.o S.length) (S ++ [.lst ds]) := rfl
theorem v_listNT {ds : List PyData} : gListN (.d (.tuple ds)) S = .ok (.o S.length) (S ++ [.lst ds]) := rfl
theorem v_listNO {n : Nat} : gListN (.o n) S = match lstOf S n with | some ds => .ok (.o S.length) (S ++ [.lst ds]) | none => .bad := by
  show (match (lstOf S n).map Sq.l with | some (.l ds) => _ | some (.t ds) => _ | none => _) = _
  cases lstOf S n <;> rfl
theorem v_split {a b : Str} : gSplit (.d (.str a)) [.d (.str b)] S = pick (decide ((b.length == 0) = false ∧ a.length + 2 ≤ SZ)) (.ok (.d (.list ((Txt.split a b).map .str))) S) .bad := by
  show (if _ then _ else _) = _
  simp only [pick, decide_eq_true_eq]
theorem v_addI {i j : Int} : dAdd (.int i) (.int j) = some (.int (i + j)) := rfl
theorem v_addS {a b : Str} : dAdd (.str a) (.str b) = pick (decide (a.length + b.length ≤ SZ)) (some (.str (a ++ b))) none := by simp only [dAdd, pick, decide_eq_true_eq]
theorem v_addT {a b : List PyData} : dAdd (.tuple a) (.tuple b) = pick (decide (a.length + b.length ≤ SZ)) (some (.tuple (a ++ b))) none := by simp only [dAdd, pick, decide_eq_true_eq]
theorem v_addL {a b : List PyData} : dAdd (.list a) (.list b) = pick (decide (a.length + b.length ≤ SZ)) (some (.list (a ++ b))) none := by simp only [dAdd, pick, decide_eq_true_eq]
theorem v_subI {i j : Int} : dSub (.int i) (.int j) = some (.int (i - j)) := rfl
theorem w_mulI {i j : Int} : dMul (.int i) (.int j) = pick (decide ((-(2 ^ 64) < i ∧ i < 2 ^ 64) ∨ (-(2 ^ 64) < j ∧ j < 2 ^ 64))) (some (.int (i * j))) none := by simp only [dMul, pick, decide_eq_true_eq]
theorem v_mulS {x : Str} {n : Int} (h : x.length * n.toNat ≤ SZ) (h1 : -(2 ^ 63) ≤ n) (h2 : n < 2 ^ 63) : dMul (.str x) (.int n) = some (.str (strRep x n)) := by simp only [dMul, if_pos (show x.length * n.toNat ≤ SZ ∧ -(2 ^ 63) ≤ n ∧ n < 2 ^ 63 from ⟨h, h1, h2⟩)]
theorem v_mulLs {x : List PyData} {n : Int} (h : x.length * n.toNat ≤ SZ) (h1 : -(2 ^ 63) ≤ n) (h2 : n < 2 ^ 63) : dMul (.list x) (.int n) = some (.list (List.replicate n.toNat x).flatten) := by simp only [dMul, if_pos (show x.length * n.toNat ≤ SZ ∧ -(2 ^ 63) ≤ n ∧ n < 2 ^ 63 from ⟨h, h1, h2⟩)]
theorem w_fdiv {i j : Int} : dFdiv (.int i) (.int j) = pick (decide (0 < j ∧ j < 18446744073709551616)) (some (.int (i / j))) none := by simp only [dFdiv, pick, decide_eq_true_eq]
theorem w_mod {i j : Int} : dMod (.int i) (.int j) = pick (decide (0 < j)) (some (.int (i % j))) none := by simp only [dMod, pick, decide_eq_true_eq]
theorem v_modP {i j : Int} (h : 0 < j) : dMod (.int i) (.int j) = some (.int (i % j)) := by rw [w_mod, decide_eq_true h]; rfl
theorem v_fdivP {i j : Int} (h : 0 < j) (h2 : j < 18446744073709551616) : dFdiv (.int i) (.int j) = some (.int (i / j)) := by rw [w_fdiv, decide_eq_true ⟨h, h2⟩]; rfl
theorem v_mulR {i j : Int} (h : -(2 ^ 64) < j) (h2 : j < 2 ^ 64) : dMul (.int i) (.int j) = some (.int (i * j)) := by rw [w_mulI, decide_eq_true (.inr ⟨h, h2⟩)]; rfl
theorem v_mulL {i j : Int} (h : -(2 ^ 64) < i) (h2 : i < 2 ^ 64) : dMul (.int i) (.int j) = some (.int (i * j)) := by rw [w_mulI, decide_eq_true (.inl ⟨h, h2⟩)]; rfl
theorem v_neg {i : Int} : dNeg (.int i) = some (.int (-i)) := rfl
theorem v_intI {i : Int} : dInt (.int i) = some (.int i) := rfl
theorem v_intB {b : Bool} : dInt (.bool b) = some (.int (if b then 1 else 0)) := rfl
theorem v_abs {i : Int} : dAbs (.int i) = some (.int (if i < 0 then -i else i)) := rfl
theorem v_max {i j : Int} : dMax (.int i) (.int j) = some (.int (if j > i then j else i)) := rfl
theorem v_min {i j : Int} : dMin (.int i) (.int j) = some (.int (if j < i then j else i)) := rfl
theorem v_lenL {ds : List PyData} : gLen (.d (.list ds)) S = .ok (.d (.int ds.length)) S := rfl
theorem v_lenT {ds : List PyData} : gLen (.d (.tuple ds)) S = .ok (.d (.int ds.length)) S := rfl
theorem v_lenK {ds : List PyData} : gLen (.k ds) S = .ok (.d (.int ds.length)) S := rfl
theorem v_lenO {n : Nat} : gLen (.o n) S = match lstOf S n with | some ds => .ok (.d (.int ds.length)) S | none => match dctOf S n with | some kds => pick (decide (kds.length ≤ SZ)) (.ok (.d (.int kds.length)) S) .bad | none => .bad := by
  show (match (lstOf S n).map Sq.l with | some (.l ds) => _ | some (.t ds) => _ | none => _) = _
  cases lstOf S n with
  | some ds => rfl
  | none =>
    show (match dctOf S n with | some kds => if kds.length ≤ SZ then _ else _ | none => _) = _
    cases dctOf S n with
    | none => rfl
    | some kds => simp only [pick, decide_eq_true_eq]
theorem v_lenD {kds : Kvs} : gLen (.d (.dict kds)) S = pick (decide (kds.length ≤ SZ)) (.ok (.d (.int kds.length)) S) .bad := by
  show (if kds.length ≤ SZ then _ else _) = _
  simp only [pick, decide_eq_true_eq]
theorem v_listD {kds : Kvs} : gList (.d (.dict kds)) S = .ok (.d (.list (kds.map (·.1)))) S := rfl
theorem v_ixD {kds : Kvs} {k : PyData} : gIx (.d (.dict kds)) (.d k) S = pick (kindB kds k) (lft S (dLook kds k)) .bad := rfl
theorem v_dcD {kds : Kvs} : dcV S (.d (.dict kds)) = some kds := rfl
theorem v_dcO {n : Nat} : dcV S (.o n) = dctOf S n := rfl
theorem v_inD {kds : Kvs} {k : PyData} : dIn k (.dict kds) = pick (kindB kds k) (some (.bool (dLook kds k).isSome)) none := by
  have e : dInB k (.dict kds) = if kindB kds k = true then some (dLook kds k).isSome else none := by cases k <;> rfl
  unfold dIn
  rw [e]
  cases kindB kds k <;> rfl
theorem v_ninD {kds : Kvs} {k : PyData} : dNotIn k (.dict kds) = pick (kindB kds k) (some (.bool (!(dLook kds k).isSome))) none := by
  have e : dInB k (.dict kds) = if kindB kds k = true then some (dLook kds k).isSome else none := by cases k <;> rfl
  unfold dNotIn
  rw [e]
  cases kindB kds k <;> rfl
theorem v_getD {kds : Kvs} {k : PyData} : gGet (.d (.dict kds)) [.d k] S = pick (kindB kds k) (.ok (.d ((dLook kds k).getD .none)) S) .bad := rfl
theorem v_getD2 {kds : Kvs} {k : PyData} {v : Vl} : gGet (.d (.dict kds)) [.d k, v] S = pick (kindB kds k) (match dLook kds k with | some y => .ok (.d y) S | none => .ok v S) .bad := rfl
theorem v_isND {neg : Bool} {kds : Kvs} : gIsN neg (.d (.dict kds)) (.d .none) S = .ok (.d (.bool neg)) S := rfl
theorem v_sort {ds : List PyData} : gSort (.d (.list ds)) S = pick (sortB ds) (.ok (.d (.list (ds.mergeSort leD))) S) .bad := rfl
theorem v_sum {ds : List PyData} : gSum (.d (.list ds)) S = match intsOf ds with | some bs => .ok (.d (.int bs.sum)) S | none => .bad := rfl
theorem v_max1 {ds : List PyData} : gMax1 (.d (.list ds)) S = match intsOf ds with | some (n :: ns) => .ok (.d (.int (ns.foldl max n))) S | _ => .bad := rfl
theorem v_min1 {ds : List PyData} : gMin1 (.d (.list ds)) S = match intsOf ds with | some (n :: ns) => .ok (.d (.int (ns.foldl min n))) S | _ => .bad := rfl
theorem v_lenS {z : Str} : gLen (.d (.str z)) S = pick (decide (z.length ≤ SZ)) (.ok (.d (.int z.length)) S) .bad := by
  show (if z.length ≤ SZ then _ else _) = _
  simp only [pick, decide_eq_true_eq]
theorem v_ixL {ds : List PyData} {i : Int} : gIx (.d (.list ds)) (.d (.int i)) S = lft S (atI ds i) := rfl
theorem v_ixT {ds : List PyData} {i : Int} : gIx (.d (.tuple ds)) (.d (.int i)) S = lft S (atI ds i) := rfl
theorem v_ixK {ds : List PyData} {i : Int} : gIx (.k ds) (.d (.int i)) S = lft S (atI ds i) := rfl
theorem v_ixO {n : Nat} {i : Int} : gIx (.o n) (.d (.int i)) S = match lstOf S n with | some ds => lft S (atI ds i) | none => match dctOf S n with | some kds => pick (kindB kds (.int i)) (lft S (dLook kds (.int i))) .bad | none => .bad := by
  show (match (lstOf S n).map Sq.l with | some (.l ds) => _ | some (.t ds) => _ | none => _) = _
  cases lstOf S n with
  | some ds => rfl
  | none =>
    show (match dctOf S n with | some kds => _ | none => _) = _
    cases dctOf S n <;> rfl
theorem v_ixOT {n : Nat} {ks : List PyData} : gIx (.o n) (.d (.tuple ks)) S = match dctOf S n with | some kds => pick (kindB kds (.tuple ks)) (lft S (dLook kds (.tuple ks))) .bad | none => .bad := by
  show (match (lstOf S n).map Sq.l with | some (.l ds) => _ | some (.t ds) => _ | none => _) = _
  cases e : lstOf S n with
  | some ds => rw [dct_no e]; rfl
  | none =>
    show (match dctOf S n with | some kds => _ | none => _) = _
    cases dctOf S n <;> rfl
theorem v_ixOS {n : Nat} {x : Str} : gIx (.o n) (.d (.str x)) S = match dctOf S n with | some kds => pick (kindB kds (.str x)) (lft S (dLook kds (.str x))) .bad | none => .bad := by
  show (match (lstOf S n).map Sq.l with | some (.l ds) => _ | some (.t ds) => _ | none => _) = _
  cases e : lstOf S n with
  | some ds => rw [dct_no e]; rfl
  | none =>
    show (match dctOf S n with | some kds => _ | none => _) = _
    cases dctOf S n <;> rfl
theorem v_ixS {z : Str} {i : Int} : gIx (.d (.str z)) (.d (.int i)) S = pick (decide (z.length ≤ SZ)) (lft S ((atI z.cps.toList i).map fun c => .str ⟨#[c]⟩)) .bad := by
  show (if z.length ≤ SZ then _ else _) = _
  simp only [pick, decide_eq_true_eq]
theorem v_slL {ds : List PyData} {lo hi : Option Int} : gSl (.d (.list ds)) lo hi S = .ok (.d (.list (cutD ds lo hi))) S := rfl
theorem v_slT {ds : List PyData} {lo hi : Option Int} : gSl (.d (.tuple ds)) lo hi S = .ok (.d (.tuple (cutD ds lo hi))) S := rfl
theorem v_slK {ds : List PyData} {lo hi : Option Int} : gSl (.k ds) lo hi S = .ok (.d (.list (cutD ds lo hi))) S := rfl
theorem v_slS {z : Str} {lo hi : Option Int} : gSl (.d (.str z)) lo hi S = pick (decide (z.length ≤ SZ)) (.ok (.d (.str ⟨(cutD z.cps.toList lo hi).toArray⟩)) S) .bad := by
  show (if z.length ≤ SZ then _ else _) = _
  simp only [pick, decide_eq_true_eq]
theorem v_listL {ds : List PyData} : gList (.d (.list ds)) S = .ok (.d (.list ds)) S := rfl
theorem v_listT {ds : List PyData} : gList (.d (.tuple ds)) S = .ok (.d (.list ds)) S := rfl
theorem v_listK {ds : List PyData} : gList (.k ds) S = .ok (.d (.list ds)) S := rfl
theorem v_back {ds : List PyData} : gBack (.d (.tuple ds)) S = .ok (.d (.tuple ds.reverse)) S := rfl
theorem v_tupL {ds : List PyData} : gTuple (.d (.list ds)) S = .ok (.d (.tuple ds)) S := rfl
theorem v_tupT {ds : List PyData} : gTuple (.d (.tuple ds)) S = .ok (.d (.tuple ds)) S := rfl
theorem v_tupK {ds : List PyData} : gTuple (.k ds) S = .ok (.d (.tuple ds)) S := rfl
theorem v_tupO {n : Nat} : gTuple (.o n) S = match lstOf S n with | some ds => .ok (.d (.tuple ds)) S | none => .bad := by
  show (match (lstOf S n).map Sq.l with | some (.l ds) => _ | some (.t ds) => _ | none => _) = _
  cases lstOf S n <;> rfl
theorem v_listO {n : Nat} : gList (.o n) S = match lstOf S n with | some ds => .ok (.d (.list ds)) S | none => match dctOf S n with | some kds => .ok (.d (.list (kds.map (·.1)))) S | none => .bad := by
  show (match (lstOf S n).map Sq.l with | some (.l ds) => _ | some (.t ds) => _ | none => _) = _
  cases lstOf S n <;> rfl
theorem v_slO {n : Nat} {lo hi : Option Int} : gSl (.o n) lo hi S = match lstOf S n with | some ds => .ok (.d (.list (cutD ds lo hi))) S | none => .bad := by
  show (match (lstOf S n).map Sq.l with | some (.l ds) => _ | some (.t ds) => _ | none => _) = _
  cases lstOf S n <;> rfl
theorem v_allL {ds : List PyData} : gAll (.d (.list ds)) S = match boolsOf ds with | some bs => .ok (.d (.bool (bs.all id))) S | none => .bad := rfl
theorem v_anyL {ds : List PyData} : gAny (.d (.list ds)) S = match boolsOf ds with | some bs => .ok (.d (.bool (bs.any id))) S | none => .bad := rfl
theorem v_isiN {T : String} : gIsi T (.d .none) S = .ok (.d (.bool (isiB "NoneType" T))) S := rfl
theorem v_isiB {T : String} {b : Bool} : gIsi T (.d (.bool b)) S = .ok (.d (.bool (isiB "bool" T))) S := rfl
theorem v_isiI {T : String} {i : Int} : gIsi T (.d (.int i)) S = .ok (.d (.bool (isiB "int" T))) S := rfl
theorem v_isiS {T : String} {x : Str} : gIsi T (.d (.str x)) S = .ok (.d (.bool (isiB "str" T))) S := rfl
theorem v_isiL {T : String} {ds : List PyData} : gIsi T (.d (.list ds)) S = .ok (.d (.bool (isiB "list" T))) S := rfl
theorem v_isiT {T : String} {ds : List PyData} : gIsi T (.d (.tuple ds)) S = .ok (.d (.bool (isiB "tuple" T))) S := rfl
theorem isi_tab : isiB "NoneType" "tuple" = false ∧ isiB "NoneType" "str" = false ∧ isiB "NoneType" "int" = false ∧ isiB "NoneType" "bool" = false ∧ isiB "NoneType" "list" = false
  ∧ isiB "bool" "tuple" = false ∧ isiB "bool" "str" = false ∧ isiB "bool" "int" = true ∧ isiB "bool" "bool" = true ∧ isiB "bool" "list" = false
  ∧ isiB "int" "tuple" = false ∧ isiB "int" "str" = false ∧ isiB "int" "int" = true ∧ isiB "int" "bool" = false ∧ isiB "int" "list" = false
  ∧ isiB "str" "tuple" = false ∧ isiB "str" "str" = true ∧ isiB "str" "int" = false ∧ isiB "str" "bool" = false ∧ isiB "str" "list" = false
  ∧ isiB "list" "tuple" = false ∧ isiB "list" "str" = false ∧ isiB "list" "int" = false ∧ isiB "list" "bool" = false ∧ isiB "list" "list" = true
  ∧ isiB "tuple" "tuple" = true ∧ isiB "tuple" "str" = false ∧ isiB "tuple" "int" = false ∧ isiB "tuple" "bool" = false ∧ isiB "tuple" "list" = false := by decide +kernel
theorem v_truB {b : Bool} : gTru (.d (.bool b)) S = some b := rfl
theorem v_isN0 {neg : Bool} : gIsN neg (.d .none) (.d .none) S = .ok (.d (.bool (!neg))) S := rfl
theorem v_isNB {neg b : Bool} : gIsN neg (.d (.bool b)) (.d .none) S = .ok (.d (.bool neg)) S := rfl
theorem v_isTn {b : Bool} : gIsN true (.d (.bool b)) (.d (.bool true)) S = .ok (.d (.bool (!b))) S := by cases b <;> rfl
theorem v_isTp {b : Bool} : gIsN false (.d (.bool b)) (.d (.bool true)) S = .ok (.d (.bool b)) S := by cases b <;> rfl
theorem v_isNI {neg : Bool} {i : Int} : gIsN neg (.d (.int i)) (.d .none) S = .ok (.d (.bool neg)) S := rfl
theorem v_isNS {neg : Bool} {x : Str} : gIsN neg (.d (.str x)) (.d .none) S = .ok (.d (.bool neg)) S := rfl
theorem v_isNL {neg : Bool} {ds : List PyData} : gIsN neg (.d (.list ds)) (.d .none) S = .ok (.d (.bool neg)) S := rfl
theorem v_isNT {neg : Bool} {ds : List PyData} : gIsN neg (.d (.tuple ds)) (.d .none) S = .ok (.d (.bool neg)) S := rfl
theorem v_pow18 : dPow (.int 10) (.int 18) = some (.int 1000000000000000000) := rfl
theorem v_ltI {i j : Int} : dLt (.int i) (.int j) = some (.bool (decide (i < j))) := rfl
theorem v_gtI {i j : Int} : dGt (.int i) (.int j) = some (.bool (decide (j < i))) := rfl
theorem v_leI {i j : Int} : dLe (.int i) (.int j) = some (.bool (decide (i ≤ j))) := by
  show some (PyData.bool (!decide (j < i))) = _
  by_cases h : j < i
  · rw [decide_eq_true h, decide_eq_false (by omega)]; rfl
  · rw [decide_eq_false h, decide_eq_true (by omega)]; rfl
theorem v_geI {i j : Int} : dGe (.int i) (.int j) = some (.bool (decide (j ≤ i))) := by
  show some (PyData.bool (!decide (i < j))) = _
  by_cases h : i < j
  · rw [decide_eq_true h, decide_eq_false (by omega)]; rfl
  · rw [decide_eq_false h, decide_eq_true (by omega)]; rfl
theorem v_ltS {a b : Str} : dLt (.str a) (.str b) = some (.bool (decide (a.cps.toList < b.cps.toList))) := rfl
theorem v_gtS {a b : Str} : dGt (.str a) (.str b) = some (.bool (decide (b.cps.toList < a.cps.toList))) := rfl
theorem v_eqI {i j : Int} : dEq (.int i) (.int j) = some (.bool (decide (i = j))) := rfl
theorem v_eqS {a b : Str} : dEq (.str a) (.str b) = some (.bool (decide (a = b))) := rfl
theorem v_eqB {a b : Bool} : dEq (.bool a) (.bool b) = some (.bool (decide (a = b))) := rfl
theorem v_neI {i j : Int} : dNe (.int i) (.int j) = some (.bool (!decide (i = j))) := rfl
theorem v_neS {a b : Str} : dNe (.str a) (.str b) = some (.bool (!decide (a = b))) := rfl
theorem v_neB {a b : Bool} : dNe (.bool a) (.bool b) = some (.bool (!decide (a = b))) := rfl
theorem v_inC {c : Nat} {z : Str} : dIn (.str ⟨#[c]⟩) (.str z) = some (.bool (decide (c ∈ z.cps.toList))) := rfl
theorem v_ninC {c : Nat} {z : Str} : dNotIn (.str ⟨#[c]⟩) (.str z) = some (.bool (!decide (c ∈ z.cps.toList))) := rfl
end
theorem mapO_some {α β : Type} {f : α → β} {a : α} : Option.map f (some a) = some (f a) := rfl
theorem mapO_none {α β : Type} {f : α → β} : Option.map f (none : Option α) = none := rfl
theorem dec_true {p : Prop} [Decidable p] (h : p) : decide p = true := decide_eq_true h
theorem dec_false {p : Prop} [Decidable p] (h : ¬p) : decide p = false := decide_eq_false h
end L2.Pv

set_option Elab.async false
set_option linter.all false
set_option maxRecDepth 100000
namespace L2.Pv
open PySem PySem.Spec PyProof.Rows L2
/-! ### one step after the other -/
theorem l_get0 {α : Type} {a : α} {l : List α} : (a :: l)[0]? = some a := rfl
theorem l_getS {α : Type} {a : α} {l : List α} {n : Nat} : (a :: l)[n + 1]? = l[n]? := rfl
theorem l_set0 {α : Type} {a b : α} {l : List α} : (a :: l).set 0 b = b :: l := rfl
theorem l_setS {α : Type} {a b : α} {l : List α} {n : Nat} : (a :: l).set (n + 1) b = a :: l.set n b := rfl
theorem l_wipe0 {Γ : Env} : wipeE Γ [] = Γ := rfl
theorem l_wipe {Γ : Env} {v : Nat} {vs : List Nat} : wipeE Γ (v :: vs) = (wipeE Γ vs).set v none := rfl
theorem l_datas0 : datas [] = some [] := rfl
theorem l_datas {d : PyData} {r : List Vl} : datas (.d d :: r) = (datas r).map (d :: ·) := rfl
theorem l_tup {S : Sto} {vs : List Vl} : gTup vs S = match datas vs with | some ds => pick (decide (ds.length ≤ SZ)) (.ok (.d (.tuple ds)) S) .bad | none => .bad := by
  unfold gTup pick
  simp only [decide_eq_true_eq]
  all_goals rfl
theorem l_lst {S : Sto} {vs : List Vl} : gLst vs S = match datas vs with | some ds => pick (decide (ds.length ≤ SZ)) (.ok (.d (.list ds)) S) .bad | none => .bad := by
  unfold gLst pick
  simp only [decide_eq_true_eq]
  all_goals rfl
theorem l_new {S : Sto} {vs : List Vl} : gNew vs S = match datas vs with | some ds => pick (decide (ds.length ≤ SZ)) (.ok (.o S.length) (S ++ [.lst ds])) .bad | none => .bad := by
  unfold gNew pick
  simp only [decide_eq_true_eq]
  all_goals rfl
theorem l_put {n : Nat} {k d : PyData} {S : Sto} : gPut (.o n) (.d k) (.d d) S = match lstOf S n with | some ds => gPutL n ds k d S | none => match dctOf S n with
    | some kds => pick (kindB kds k && decide (kds.length < SZ)) (some (S.set n (.dct (dPut kds k d)))) none
    | none => none := by
  show (match lstOf S n with | some ds => _ | none => match dctOf S n with | some kds => if kindB kds k = true ∧ kds.length < SZ then _ else _ | none => _) = _
  cases lstOf S n with
  | some ds => rfl
  | none =>
    cases dctOf S n with
    | none => rfl
    | some kds =>
      show (if kindB kds k = true ∧ kds.length < SZ then _ else _) = _
      simp only [pick, Bool.and_eq_true, decide_eq_true_eq]
theorem l_putL {n : Nat} {ds : List PyData} {k : Int} {d : PyData} {S : Sto} : gPutL n ds (.int k) d S = (ixN ds.length k).map fun j => S.set n (.lst (ds.set j d)) := rfl
theorem l_srcD {S : Sto} {kds : Kvs} : srcOf S (.d (.dict kds)) = some (.its (kds.map (·.1))) := rfl
theorem l_srcL {S : Sto} {ds : List PyData} : srcOf S (.d (.list ds)) = some (.its ds) := rfl
theorem l_srcT {S : Sto} {ds : List PyData} : srcOf S (.d (.tuple ds)) = some (.its ds) := rfl
theorem l_srcS {S : Sto} {z : Str} : srcOf S (.d (.str z)) = some (.its (strIts z)) := rfl
theorem l_srcK {S : Sto} {ds : List PyData} : srcOf S (.k ds) = some (.its ds) := rfl
theorem l_tnm {i : Nat} {d : PyData} {Γ : Env} : tNm i d Γ = some (Γ.set i (some (.d d))) := rfl
theorem l_at0 {α : Type} {a0 : α} {l : List α} : atI (a0 :: l) 0 = some a0 := by
  unfold atI ixN
  rw [if_pos (by omega), if_pos (by simp only [List.length_cons]; omega)]
  rfl
theorem l_ixn0 {n : Nat} : ixN (n + 1) 0 = some 0 := by
  unfold ixN
  rw [if_pos (by omega), if_pos (by omega)]
  rfl
theorem l_at1 {α : Type} {a0 a1 : α} {l : List α} : atI (a0 :: a1 :: l) 1 = some a1 := by
  unfold atI ixN
  rw [if_pos (by omega), if_pos (by simp only [List.length_cons]; omega)]
  rfl
theorem l_ixn1 {n : Nat} : ixN (n + 1 + 1) 1 = some 1 := by
  unfold ixN
  rw [if_pos (by omega), if_pos (by omega)]
  rfl
theorem l_at2 {α : Type} {a0 a1 a2 : α} {l : List α} : atI (a0 :: a1 :: a2 :: l) 2 = some a2 := by
  unfold atI ixN
  rw [if_pos (by omega), if_pos (by simp only [List.length_cons]; omega)]
  rfl
theorem l_ixn2 {n : Nat} : ixN (n + 1 + 1 + 1) 2 = some 2 := by
  unfold ixN
  rw [if_pos (by omega), if_pos (by omega)]
  rfl
theorem l_at3 {α : Type} {a0 a1 a2 a3 : α} {l : List α} : atI (a0 :: a1 :: a2 :: a3 :: l) 3 = some a3 := by
  unfold atI ixN
  rw [if_pos (by omega), if_pos (by simp only [List.length_cons]; omega)]
  rfl
theorem l_ixn3 {n : Nat} : ixN (n + 1 + 1 + 1 + 1) 3 = some 3 := by
  unfold ixN
  rw [if_pos (by omega), if_pos (by omega)]
  rfl
theorem l_at4 {α : Type} {a0 a1 a2 a3 a4 : α} {l : List α} : atI (a0 :: a1 :: a2 :: a3 :: a4 :: l) 4 = some a4 := by
  unfold atI ixN
  rw [if_pos (by omega), if_pos (by simp only [List.length_cons]; omega)]
  rfl
theorem l_ixn4 {n : Nat} : ixN (n + 1 + 1 + 1 + 1 + 1) 4 = some 4 := by
  unfold ixN
  rw [if_pos (by omega), if_pos (by omega)]
  rfl
theorem l_at5 {α : Type} {a0 a1 a2 a3 a4 a5 : α} {l : List α} : atI (a0 :: a1 :: a2 :: a3 :: a4 :: a5 :: l) 5 = some a5 := by
  unfold atI ixN
  rw [if_pos (by omega), if_pos (by simp only [List.length_cons]; omega)]
  rfl
theorem l_ixn5 {n : Nat} : ixN (n + 1 + 1 + 1 + 1 + 1 + 1) 5 = some 5 := by
  unfold ixN
  rw [if_pos (by omega), if_pos (by omega)]
  rfl
theorem l_at6 {α : Type} {a0 a1 a2 a3 a4 a5 a6 : α} {l : List α} : atI (a0 :: a1 :: a2 :: a3 :: a4 :: a5 :: a6 :: l) 6 = some a6 := by
  unfold atI ixN
  rw [if_pos (by omega), if_pos (by simp only [List.length_cons]; omega)]
  rfl
theorem l_ixn6 {n : Nat} : ixN (n + 1 + 1 + 1 + 1 + 1 + 1 + 1) 6 = some 6 := by
  unfold ixN
  rw [if_pos (by omega), if_pos (by omega)]
  rfl
theorem l_at7 {α : Type} {a0 a1 a2 a3 a4 a5 a6 a7 : α} {l : List α} : atI (a0 :: a1 :: a2 :: a3 :: a4 :: a5 :: a6 :: a7 :: l) 7 = some a7 := by
  unfold atI ixN
  rw [if_pos (by omega), if_pos (by simp only [List.length_cons]; omega)]
  rfl
theorem l_ixn7 {n : Nat} : ixN (n + 1 + 1 + 1 + 1 + 1 + 1 + 1 + 1) 7 = some 7 := by
  unfold ixN
  rw [if_pos (by omega), if_pos (by omega)]
  rfl
theorem l_len0 {α : Type} : ([] : List α).length = 0 := rfl
theorem l_lenC {α : Type} {a : α} {l : List α} : (a :: l).length = l.length + 1 := rfl
theorem l_dT {h : Decidable True} : @decide True h = true := decide_eq_true trivial
theorem l_dF {h : Decidable False} : @decide False h = false := decide_eq_false id
theorem l_nT : (!true) = false := rfl
theorem l_nF : (!false) = true := rfl
theorem l_le {a : Nat} {k : Nat} : (a + 1 ≤ k + 1) = (a ≤ k) := by simp
theorem l_sz {a : Nat} (h : a ≤ 1000) : decide (a ≤ SZ) = true := decide_eq_true (Nat.le_trans h (by decide))
theorem l_ixO {n : Nat} {l : List PyData} {S : Sto} {i : Int} (h : lstOf S n = some l) : gIx (.o n) (.d (.int i)) S = lft S (atI l i) := by rw [v_ixO, h]
theorem l_lst0 {ds : List PyData} {S : Sto} : lstOf (.lst ds :: S) 0 = some ds := rfl
theorem l_lstS {o : Ob} {S : Sto} {n : Nat} : lstOf (o :: S) (n + 1) = lstOf S n := rfl
theorem l_dct0 {ds : Kvs} {S : Sto} : dctOf (.dct ds :: S) 0 = some ds := rfl
theorem l_dctS {o : Ob} {S : Sto} {n : Nat} : dctOf (o :: S) (n + 1) = dctOf S n := rfl
theorem dct_lt {S : Sto} {n : Nat} {ds : Kvs} (h : dctOf S n = some ds) : n < S.length := by
  have h := dctOf_ok h
  exact (List.getElem?_eq_some_iff.mp h).1
theorem dct_set {S : Sto} {n : Nat} {ds es : Kvs} (h : dctOf S n = some ds) : dctOf (S.set n (.dct es)) n = some es := by
  unfold dctOf
  rw [List.getElem?_set_self (dct_lt h)]
theorem lst_lt {S : Sto} {n : Nat} {ds : List PyData} (h : lstOf S n = some ds) : n < S.length := by
  have h := lstOf_ok h
  exact (List.getElem?_eq_some_iff.mp h).1
theorem lst_set {S : Sto} {n : Nat} {ds es : List PyData} (h : lstOf S n = some ds) : lstOf (S.set n (.lst es)) n = some es := by
  unfold lstOf
  rw [List.getElem?_set_self (lst_lt h)]
theorem set_set {S : Sto} {n : Nat} {a b : Ob} : (S.set n a).set n b = S.set n b := by simp
def EV := And.intro @x_var (And.intro @x_con (And.intro @x_bin (And.intro @x_un (And.intro @x_args0 (And.intro @x_args (And.intro @x_call (And.intro @x_tst (And.intro @x_tru (And.intro @x_not (And.intro @x_and (And.intro @x_or (And.intro @x_if (And.intro @x_andV (And.intro @x_orV (And.intro @x_notV (And.intro @x_sl (And.intro @x_part0 (And.intro @x_part (And.intro @x_metO (And.intro @x_metS (And.intro @x_metT (And.intro @x_metD (And.intro @x_dct0 (And.intro @x_dct1 (And.intro @x_addNll (And.intro @x_addNol (And.intro @x_addNlo (And.intro @x_par3 (And.intro @x_chain (And.intro @x_lrg (And.intro @x_dctN (And.intro @x_fz (And.intro @x_skip (And.intro @x_seq (And.intro @x_thenN (And.intro @x_thenR (And.intro @x_thenB (And.intro @x_thenC (And.intro @x_drop (And.intro @x_ret (And.intro @x_retN (And.intro @x_ite (And.intro @x_set (And.intro @x_asg (And.intro @x_brk (And.intro @x_cnt (And.intro @x_put (And.intro @x_for (And.intro @x_iter (And.intro @x_enum (And.intro @x_rev (And.intro @x_yes (And.intro @x_rng1 (And.intro @x_rng2 (And.intro @x_compN (And.intro @x_comp2 (And.intro @x_comp (And.intro @v_bool (And.intro @v_int (And.intro @v_dat2 (And.intro @v_cmp2 (And.intro @v_cmpO (And.intro @v_cmpP (And.intro @v_dat1 (And.intro @v_lft (And.intro @v_arg1 (And.intro @v_arg2 (And.intro @v_gAdd (And.intro @v_gAddO (And.intro @v_gAddP (And.intro @v_gAddQ (And.intro @v_addLL (And.intro @v_listN (And.intro @v_listNT (And.intro @v_listNO (And.intro @v_split (And.intro @v_addI (And.intro @v_addS (And.intro @v_addT (And.intro @v_addL (And.intro @v_subI (And.intro @v_mulS (And.intro @v_mulLs (And.intro @v_modP (And.intro @v_fdivP (And.intro @v_mulR (And.intro @v_mulL (And.intro @v_neg (And.intro @v_intI (And.intro @v_intB (And.intro @v_abs (And.intro @v_max (And.intro @v_min (And.intro @v_lenL (And.intro @v_lenT (And.intro @v_lenK (And.intro @v_lenO (And.intro @v_lenD (And.intro @v_listD (And.intro @v_ixD (And.intro @v_dcD (And.intro @v_dcO (And.intro @v_inD (And.intro @v_ninD (And.intro @v_getD (And.intro @v_getD2 (And.intro @v_isND (And.intro @v_sort (And.intro @v_sum (And.intro @v_max1 (And.intro @v_min1 (And.intro @v_lenS (And.intro @v_ixL (And.intro @v_ixT (And.intro @v_ixK (And.intro @v_ixO (And.intro @v_ixOT (And.intro @v_ixOS (And.intro @v_ixS (And.intro @v_slL (And.intro @v_slT (And.intro @v_slK (And.intro @v_listL (And.intro @v_listT (And.intro @v_listK (And.intro @v_back (And.intro @v_tupL (And.intro @v_tupT (And.intro @v_tupK (And.intro @v_tupO (And.intro @v_listO (And.intro @v_slO (And.intro @v_allL (And.intro @v_anyL (And.intro @v_isiN (And.intro @v_isiB (And.intro @v_isiI (And.intro @v_isiS (And.intro @v_isiL (And.intro @v_isiT (And.intro @v_truB (And.intro @v_isN0 (And.intro @v_isNB (And.intro @v_isTn (And.intro @v_isTp (And.intro @v_isNI (And.intro @v_isNS (And.intro @v_isNL (And.intro @v_isNT (And.intro @v_pow18 (And.intro @v_ltI (And.intro @v_gtI (And.intro @v_leI (And.intro @v_geI (And.intro @v_ltS (And.intro @v_gtS (And.intro @v_eqI (And.intro @v_eqS (And.intro @v_eqB (And.intro @v_neI (And.intro @v_neS (And.intro @v_neB (And.intro @v_inC (And.intro @v_ninC (And.intro @bind_okE (And.intro @bind_badE (And.intro @bind_assoc (And.intro @pick_t (And.intro @pick_f (And.intro @mapO_some (And.intro @mapO_none (And.intro @l_get0 (And.intro @l_getS (And.intro @l_set0 (And.intro @l_setS (And.intro @l_wipe0 (And.intro @l_wipe (And.intro @l_datas0 (And.intro @l_datas (And.intro @l_tup (And.intro @l_lst (And.intro @l_new (And.intro @l_put (And.intro @l_putL (And.intro @l_srcD (And.intro @l_srcL (And.intro @l_srcT (And.intro @l_srcS (And.intro @l_srcK (And.intro @l_tnm (And.intro @l_at0 (And.intro @l_ixn0 (And.intro @l_at1 (And.intro @l_ixn1 (And.intro @l_at2 (And.intro @l_ixn2 (And.intro @l_at3 (And.intro @l_ixn3 (And.intro @l_at4 (And.intro @l_ixn4 (And.intro @l_at5 (And.intro @l_ixn5 (And.intro @l_at6 (And.intro @l_ixn6 (And.intro @l_at7 (And.intro @l_ixn7 (And.intro @l_len0 (And.intro @l_lenC (And.intro @l_dT (And.intro @l_dF (And.intro @l_nT (And.intro @l_nF (And.intro @l_lst0 (And.intro @l_lstS (And.intro @l_dct0 (@l_dctS))))))))))))))))))))))))))))))))))))))))))))))))))))))))))))))))))))))))))))))))))))))))))))))))))))))))))))))))))))))))))))))))))))))))))))))))))))))))))))))))))))))))))))))))))))))))))))))))))))))))))))))))))))))))

/-! ### a def's end -/
theorem Sat_end {keep : Bool} {n : Nat} {r : R Fl} {Q : Vl → Sto → Prop} : (fnEnd keep n r).Sat Q = r.Sat fun fl S' => match fl with
      | .rt v => (fin keep n v S').Sat Q
      | .nx _ => (fin keep n (.d .none) S').Sat Q
      | _ => False := by
  cases r with
  | bad => rfl
  | ok fl S' => cases fl <;> rfl
theorem fin_d {keep : Bool} {n : Nat} {d : PyData} {S : Sto} : fin keep n (.d d) S = .ok (.d d) (S.take n) := rfl
end L2.Pv

set_option Elab.async false
set_option linter.all false
set_option maxRecDepth 100000
namespace L2.Pv
open PySem PySem.Spec PyProof.Rows L2
/-! ### the tape -/
structure Tp (S : Sto) (t : Nat) : Prop where
  ex : ∃ (ns : List Int) (p c m : Int), lstOf S t = some [.list (ns.map .int), .int p, .int c, .int m] ∧ 0 ≤ p ∧ 0 ≤ c
structure Kp (t : Nat) (S S' : Sto) : Prop where
  tp : Tp S' t
  len : S'.length = S.length
  eq : ∀ j, j ≠ t → S'[j]? = S[j]?
theorem Kp.refl {t : Nat} {S : Sto} (h : Tp S t) : Kp t S S := ⟨h, rfl, fun _ _ => rfl⟩
theorem Kp.trans {t : Nat} {S S1 S2 : Sto} (a : Kp t S S1) (b : Kp t S1 S2) : Kp t S S2 := ⟨b.tp, b.len.trans a.len, fun j h => (b.eq j h).trans (a.eq j h)⟩
theorem Kp.set {t : Nat} {S : Sto} {ns : List Int} {p c m : Int} (h : t < S.length) (h1 : 0 ≤ p) (h2 : 0 ≤ c) : Kp t S (S.set t (.lst [.list (ns.map .int), .int p, .int c, .int m])) where
  tp := ⟨ns, p, c, m, by
    unfold lstOf
    rw [List.getElem?_set_self h], h1, h2⟩
  len := by simp
  eq := fun j hj => List.getElem?_set_ne (fun e => hj e.symm)
theorem Kp.take {t : Nat} {S S' : Sto} (a : Kp t S S') : S'.take S.length = S' := List.take_of_length_le (by rw [a.len]; exact Nat.le_refl _)
theorem take_all {S : Sto} : S.take S.length = S := List.take_length
/-- what a call that draws satisfies -/
def Gen (t : Nat) (S : Sto) (r : R Vl) (P : Vl → Prop) : Prop := r.Sat fun v S' => P v ∧ Kp t S S'
theorem Gen.mono {t : Nat} {S : Sto} {r : R Vl} {P P' : Vl → Prop} (h : Gen t S r P) (f : ∀ v, P v → P' v) : Gen t S r P' := R.Sat.mono h fun v S' ⟨a, b⟩ => ⟨f v a, b⟩
/-- a draw, then the rest -/
theorem Gen.then {β : Type} {t : Nat} {S0 S : Sto} {r : R Vl} {P : Vl → Prop} {f : Vl → Sto → R β} {Q : β → Sto → Prop} (hk : Kp t S0 S) (h : Gen t S r P) (k : ∀ v S', P v → Kp t S0 S' → (f v S').Sat Q) : (r.bind f).Sat Q :=
  R.Sat.bind h fun v S' ⟨a, b⟩ => k v S' a (hk.trans b)
/-- a def that draws -/
theorem Gen.end {t : Nat} {S : Sto} {r : R Fl} {P : Vl → Prop} (h : r.Sat fun fl S' => ∃ d, fl = .rt (.d d) ∧ P (.d d) ∧ Kp t S S') : Gen t S (fnEnd false S.length r) P := by
  unfold Gen
  rw [Sat_end]
  refine h.mono fun fl S' ⟨d, e, hp, hk⟩ => ?_
  subst e
  show P (.d d) ∧ Kp t S (S'.take S.length)
  rw [hk.take]
  exact ⟨hp, hk⟩
theorem int_nn {i : Int} : 0 ≤ (if i < 0 then -i else i) := by split <;> omega
theorem atI_map {ns : List Int} {i : Int} (h : 0 ≤ i) (h2 : i < ns.length) : ∃ x, atI (ns.map PyData.int) i = some (.int x) := by
  unfold atI ixN
  obtain ⟨j, rfl⟩ := Int.eq_ofNat_of_zero_le h
  have h3 : j < ns.length := by omega
  refine ⟨ns[j], ?_⟩
  simp [h3]
theorem Sat_pickOB {β : Type} {b : Bool} {x y : Option PyData} {S : Sto} {f : Vl → Sto → R β} {Q : β → Sto → Prop} (h1 : b = true → ((lft S x).bind f).Sat Q) (h2 : b = false → ((lft S y).bind f).Sat Q) : ((lft S (pick b x y)).bind f).Sat Q := by
  cases b
  · exact h2 rfl
  · exact h1 rfl
end L2.Pv

set_option Elab.async false
set_option linter.all false
set_option maxRecDepth 100000
namespace L2.Pv
open PySem PySem.Spec PyProof.Rows L2
/-! ### texts as lists of signs -/
def ts (x : Str) : List Nat := x.cps.toList
def mk (l : List Nat) : Str := ⟨l.toArray⟩
theorem ts_mk (l : List Nat) : ts (mk l) = l := by simp [ts, mk]
theorem mk_ts (x : Str) : mk (ts x) = x := by simp [ts, mk]
theorem str_ext {a b : Str} (h : ts a = ts b) : a = b := by rw [← mk_ts a, ← mk_ts b, h]
theorem ts_app (a b : Str) : ts (a ++ b) = ts a ++ ts b := by
  show (a.cps ++ b.cps).toList = _
  simp [ts]
theorem len_ts (x : Str) : x.length = (ts x).length := by
  show x.cps.size = x.cps.toList.length
  simp
theorem ts_empty : ts Str.empty = [] := rfl
theorem ts_join0 {a : Str} (ha : ts a = []) : ∀ zs : List Str, ts (Str.join a zs) = (zs.map ts).flatten
  | [] => rfl
  | [x] => by simp [Str.join]
  | x :: y :: r => by
    have ih := ts_join0 ha (y :: r)
    show ts (x ++ a ++ Str.join a (y :: r)) = _
    rw [ts_app, ts_app, ha, ih]
    simp
theorem len_app (a b : Str) : (a ++ b).length = a.length + b.length := by rw [len_ts, len_ts, len_ts, ts_app, List.length_append]
theorem len_join0 {a : Str} (ha : ts a = []) (zs : List Str) : (Str.join a zs).length = (zs.map (·.length)).sum := by
  rw [len_ts, ts_join0 ha, List.length_flatten, List.map_map]
  congr 1
theorem strs_map (zs : List Str) : strsOf (zs.map .str) = some zs := by
  induction zs with
  | nil => rfl
  | cons z r ih =>
    show (strsOf (r.map .str)).map (z :: ·) = _
    rw [ih]
    rfl
theorem sum_le {n : Nat} : ∀ {l : List Nat}, (∀ x ∈ l, x ≤ n) → l.sum ≤ l.length * n
  | [], _ => by simp
  | x :: r, h => by
    have := sum_le (l := r) fun y hy => h y (List.mem_cons_of_mem _ hy)
    have := h x List.mem_cons_self
    simp only [List.sum_cons, List.length_cons, Nat.add_mul]
    omega
/-- ''.join of texts -/
theorem j_join {a : Str} {zs : List Str} {S : Sto} {n : Nat} (ha : ts a = []) (h : ∀ z ∈ zs, z.length ≤ n) (hn : zs.length * n ≤ SZ) : gJoin (.d (.str a)) [.d (.list (zs.map .str))] S = .ok (.d (.str (Str.join a zs))) S := by
  have h1 : (zs.map (·.length)).sum ≤ zs.length * n := by
    have := sum_le (l := zs.map (·.length)) (n := n) fun x hx => by
      obtain ⟨z, hz, e⟩ := List.mem_map.mp hx
      exact e ▸ h z hz
    rwa [List.length_map] at this
  have h2 : a.length = 0 := by rw [len_ts, ha]; rfl
  have e : gJoin (.d (.str a)) [.d (.list (zs.map .str))] S = (match strsOf (zs.map .str) with
        | some ys => if (ys.map (·.length)).sum + ys.length * a.length ≤ 16777216 then .ok (.d (.str (Str.join a ys))) S else .bad
        | none => .bad) := rfl
  rw [e, strs_map]
  show (if _ then _ else _) = _
  rw [if_pos]
  rw [h2]
  show _ ≤ SZ
  omega
theorem all_strs {P : Str → Prop} : ∀ {ys : List PyData}, (∀ y ∈ ys, ∃ z, y = .str z ∧ P z) → ∃ zs : List Str, ys = zs.map .str ∧ ∀ z ∈ zs, P z
  | [], _ => ⟨[], rfl, fun _ h => by cases h⟩
  | y :: r, h => by
    obtain ⟨zs, e, h2⟩ := all_strs (P := P) (ys := r) fun y hy => h y (List.mem_cons_of_mem _ hy)
    obtain ⟨z, e3, h3⟩ := h y List.mem_cons_self
    refine ⟨z :: zs, by rw [e, e3]; rfl, fun w hw => ?_⟩
    rcases List.mem_cons.mp hw with rfl | hw
    · exact h3
    · exact h2 w hw
/-! ### ranges -/
theorem rng_ok {n : Int} (h0 : 0 ≤ n) (h : n ≤ 1000000) : decide (-(2 ^ 62) ≤ n ∧ n < 2 ^ 62) = true := decide_eq_true ⟨by omega, by omega⟩
theorem rng_fuel {n : Int} {i : Int} (h : n ≤ 1000000) : decide (fuelOf (.its (rngIts i n.toNat)) ≤ SZ) = true := by
  apply decide_eq_true
  show (rngIts i n.toNat).length + 1 ≤ 16777216
  unfold rngIts
  rw [List.length_map, List.length_range]
  omega
theorem rng_len {n : Nat} {i : Int} : (rngIts i n).length = n := by unfold rngIts; rw [List.length_map, List.length_range]
/-! ### comprehensions -/
/-- each element is drawn -/
theorem Gen.comp {β : Type} {t : Nat} {S0 S : Sto} {all : List PyData} {tg : Tg} {elt : SE} {Γ : Env} {P : PyData → Prop} {f : List PyData → Sto → R β} {Q : β → Sto → Prop} (hk : Kp t S0 S)
    (step : ∀ d S', Kp t S0 S' → d ∈ all → ∃ Γ2, tg d Γ = some Γ2 ∧ Gen t S' (elt Γ2 S') fun v => ∃ y, v = .d y ∧ P y)
    (k : ∀ ys S', ys.length = all.length → (∀ y ∈ ys, P y) → Kp t S0 S' → (f ys S').Sat Q) : ((cloop tg sYes elt Γ (.its all) (fuelOf (.its all)) 0 S).bind f).Sat Q := by
  rw [Sat_bind]
  refine Sat_comp (fun rest acc S' => rest.length + acc.length = all.length ∧ (∀ d ∈ rest, d ∈ all) ∧ (∀ y ∈ acc, P y) ∧ Kp t S0 S') ⟨rfl, fun _ h => h, fun _ h => absurd h (by simp), hk⟩ ?_ ?_
  · rintro d rest acc S' ⟨h1, h2, h3, h4⟩
    obtain ⟨Γ2, e, h⟩ := step d S' h4 (h2 d List.mem_cons_self)
    refine ⟨Γ2, e, ?_⟩
    show ((elt Γ2 S').bind fun v S2 => .ok (some v) S2).Sat _
    rw [Sat_bind]
    refine R.Sat.mono h fun v S2 ⟨⟨y, e2, hp⟩, hk2⟩ => ?_
    subst e2
    show _ ∧ _ ∧ _ ∧ _
    refine ⟨by simp only [List.length_cons, List.length_append, List.length_nil] at h1 ⊢; omega, fun d hd => h2 d (List.mem_cons_of_mem _ hd), fun z hz => ?_, h4.trans hk2⟩
    rcases List.mem_append.mp hz with hz | hz
    · exact h3 z hz
    · rw [List.mem_singleton.mp hz]; exact hp
  · rintro acc S' ⟨h1, h2, h3, h4⟩
    exact k acc S' (by simpa using h1) h3 h4
/-- each element is computed -/
theorem cloop_map {tg : Tg} {elt : SE} {Γ : Env} {S : Sto} {f : PyData → PyData} {all : List PyData} : ∀ (n i : Nat), i ≤ all.length → all.length - i < n → (∀ d ∈ all, ∃ Γ2, tg d Γ = some Γ2 ∧ elt Γ2 S = .ok (.d (f d)) S) →
    cloop tg sYes elt Γ (.its all) n i S = .ok ((all.drop i).map f) S
  | 0, i, h0, h1, h => absurd h1 (Nat.not_lt_zero _)
  | n + 1, i, h0, h1, h => by
    unfold cloop
    by_cases hi : i < all.length
    · obtain ⟨Γ2, e1, e2⟩ := h all[i] (List.getElem_mem hi)
      simp only [nxt, List.getElem?_eq_getElem hi, e1, e2, sYes, R.bind, cloop_map n (i + 1) hi (by omega) h]
      rw [List.drop_eq_getElem_cons hi, List.map_cons]
      rfl
    · have e : i = all.length := by omega
      subst e
      simp only [nxt, List.getElem?_eq_none (Nat.le_refl _), List.drop_length, List.map_nil]
theorem comp_map {tg : Tg} {elt : SE} {Γ : Env} {S : Sto} {all : List PyData} (f : PyData → PyData) (h : ∀ d ∈ all, ∃ Γ2, tg d Γ = some Γ2 ∧ elt Γ2 S = .ok (.d (f d)) S) :
    cloop tg sYes elt Γ (.its all) (fuelOf (.its all)) 0 S = .ok (all.map f) S := by
  exact cloop_map _ 0 (Nat.zero_le _) (Nat.lt_succ_self _) h
theorem cloop_filt {tg : Tg} {tst : ST} {elt : SE} {Γ : Env} {S : Sto} {p : PyData → Bool} {f : PyData → PyData} {all : List PyData} : ∀ (n i : Nat), i ≤ all.length → all.length - i < n →
    (∀ d ∈ all, ∃ Γ2, tg d Γ = some Γ2 ∧ tst Γ2 S = .ok (p d) S ∧ (p d = true → elt Γ2 S = .ok (.d (f d)) S)) →
    cloop tg tst elt Γ (.its all) n i S = .ok (((all.drop i).filter p).map f) S
  | 0, i, h0, h1, h => absurd h1 (Nat.not_lt_zero _)
  | n + 1, i, h0, h1, h => by
    unfold cloop
    by_cases hi : i < all.length
    · obtain ⟨Γ2, e1, e2, e3⟩ := h all[i] (List.getElem_mem hi)
      rw [List.drop_eq_getElem_cons hi, List.filter_cons]
      cases hp : p all[i] with
      | true =>
        simp only [nxt, List.getElem?_eq_getElem hi, e1, e2, hp, e3 hp, R.bind, cloop_filt n (i + 1) hi (by omega) h]
        rfl
      | false =>
        simp only [nxt, List.getElem?_eq_getElem hi, e1, e2, hp, R.bind, cloop_filt n (i + 1) hi (by omega) h]
        rfl
    · have e : i = all.length := by omega
      subst e
      simp only [nxt, List.getElem?_eq_none (Nat.le_refl _), List.drop_length, List.map_nil, List.filter_nil]
theorem comp_filt {tg : Tg} {tst : ST} {elt : SE} {Γ : Env} {S : Sto} {all : List PyData} (p : PyData → Bool) (f : PyData → PyData) (h : ∀ d ∈ all, ∃ Γ2, tg d Γ = some Γ2 ∧ tst Γ2 S = .ok (p d) S ∧ (p d = true → elt Γ2 S = .ok (.d (f d)) S)) :
    cloop tg tst elt Γ (.its all) (fuelOf (.its all)) 0 S = .ok ((all.filter p).map f) S := by
  exact cloop_filt _ 0 (Nat.zero_le _) (Nat.lt_succ_self _) h
theorem cloop_filtg {α : Type} {tg : Tg} {tst : ST} {elt : SE} {Γ : Env} {S : Sto} {g : α → PyData} {p : α → Bool} {f : α → PyData} {all : List α} : ∀ (n i : Nat), i ≤ all.length → all.length - i < n →
    (∀ d ∈ all, ∃ Γ2, tg (g d) Γ = some Γ2 ∧ tst Γ2 S = .ok (p d) S ∧ (p d = true → elt Γ2 S = .ok (.d (f d)) S)) →
    cloop tg tst elt Γ (.its (all.map g)) n i S = .ok (((all.drop i).filter p).map f) S
  | 0, i, h0, h1, h => absurd h1 (Nat.not_lt_zero _)
  | n + 1, i, h0, h1, h => by
    unfold cloop
    by_cases hi : i < all.length
    · obtain ⟨Γ2, e1, e2, e3⟩ := h all[i] (List.getElem_mem hi)
      rw [List.drop_eq_getElem_cons hi, List.filter_cons]
      cases hp : p all[i] with
      | true =>
        simp only [nxt, List.getElem?_map, List.getElem?_eq_getElem hi, mapO_some, e1, e2, hp, e3 hp, R.bind, cloop_filtg n (i + 1) hi (by omega) h]
        rfl
      | false =>
        simp only [nxt, List.getElem?_map, List.getElem?_eq_getElem hi, mapO_some, e1, e2, hp, R.bind, cloop_filtg n (i + 1) hi (by omega) h]
        rfl
    · have e : i = all.length := by omega
      subst e
      simp only [nxt, List.getElem?_map, mapO_none, List.getElem?_eq_none (Nat.le_refl _), List.drop_length, List.map_nil, List.filter_nil]
/-- over what is told as data: filtered, computed -/
theorem comp_filtg {α : Type} {tg : Tg} {tst : ST} {elt : SE} {Γ : Env} {S : Sto} {all : List α} (g : α → PyData) (p : α → Bool) (f : α → PyData) (h : ∀ d ∈ all, ∃ Γ2, tg (g d) Γ = some Γ2 ∧ tst Γ2 S = .ok (p d) S ∧ (p d = true → elt Γ2 S = .ok (.d (f d)) S)) :
    cloop tg tst elt Γ (.its (all.map g)) (fuelOf (.its (all.map g))) 0 S = .ok ((all.filter p).map f) S := by
  refine cloop_filtg _ 0 (Nat.zero_le _) ?_ h
  show _ < (all.map g).length + 1
  rw [List.length_map]
  omega
theorem comp_mapg {α : Type} {tg : Tg} {elt : SE} {Γ : Env} {S : Sto} {all : List α} (g : α → PyData) (f : α → PyData) (h : ∀ d ∈ all, ∃ Γ2, tg (g d) Γ = some Γ2 ∧ elt Γ2 S = .ok (.d (f d)) S) :
    cloop tg sYes elt Γ (.its (all.map g)) (fuelOf (.its (all.map g))) 0 S = .ok (all.map f) S := by
  have e := comp_filtg (tst := sYes) g (fun _ => true) f fun d hd => by
    obtain ⟨Γ2, e1, e2⟩ := h d hd
    exact ⟨Γ2, e1, rfl, fun _ => e2⟩
  rw [e, List.filter_eq_self.mpr fun _ _ => rfl]
/-- a for whose turns keep the names: each turn goes on, or some turn ends the def -/
theorem floop_g {α : Type} {tg : Tg} {b : SS} {S : Sto} {g : α → PyData} {r : α → Option Vl} {I : Env → Prop} {all : List α} : ∀ (n i : Nat) (Γ : Env), i ≤ all.length → all.length - i < n → I Γ →
    (∀ d ∈ all, ∀ Γ, I Γ → ∃ Γ2, tg (g d) Γ = some Γ2 ∧ match r d with
      | none => ∃ Γ3, (b Γ2 S = .ok (.nx Γ3) S ∨ b Γ2 S = .ok (.ct Γ3) S) ∧ I Γ3
      | some v => b Γ2 S = .ok (.rt v) S) →
    match (all.drop i).findSome? r with
      | some v => floop tg b (.its (all.map g)) n i Γ S = .ok (.rt v) S
      | none => ∃ Γ3, floop tg b (.its (all.map g)) n i Γ S = .ok (.nx Γ3) S ∧ I Γ3
  | 0, i, Γ, h0, h1, hI, h => absurd h1 (Nat.not_lt_zero _)
  | n + 1, i, Γ, h0, h1, hI, h => by
    unfold floop
    by_cases hi : i < all.length
    · obtain ⟨Γ2, e1, e2⟩ := h all[i] (List.getElem_mem hi) Γ hI
      rw [List.drop_eq_getElem_cons hi, List.findSome?_cons]
      revert e2
      cases hp : r all[i] with
      | some v =>
        intro e2
        simp only [nxt, List.getElem?_map, List.getElem?_eq_getElem hi, mapO_some, e1, e2, R.bind]
      | none =>
        rintro ⟨Γ3, e2, hI3⟩
        have ih := floop_g n (i + 1) Γ3 hi (by omega) hI3 h
        rcases e2 with e2 | e2 <;> simp only [nxt, List.getElem?_map, List.getElem?_eq_getElem hi, mapO_some, e1, e2, R.bind] <;> exact ih
    · have e : i = all.length := by omega
      subst e
      simp only [nxt, List.getElem?_map, mapO_none, List.getElem?_eq_none (Nat.le_refl _), List.drop_length, List.findSome?_nil]
      exact ⟨Γ, rfl, hI⟩
theorem for_g {α : Type} {tg : Tg} {b : SS} {S : Sto} {Γ : Env} {all : List α} (g : α → PyData) (r : α → Option Vl) (I : Env → Prop) (hI : I Γ) (h : ∀ d ∈ all, ∀ Γ, I Γ → ∃ Γ2, tg (g d) Γ = some Γ2 ∧ match r d with
      | none => ∃ Γ3, (b Γ2 S = .ok (.nx Γ3) S ∨ b Γ2 S = .ok (.ct Γ3) S) ∧ I Γ3
      | some v => b Γ2 S = .ok (.rt v) S) :
    match all.findSome? r with
      | some v => floop tg b (.its (all.map g)) (fuelOf (.its (all.map g))) 0 Γ S = .ok (.rt v) S
      | none => ∃ Γ3, floop tg b (.its (all.map g)) (fuelOf (.its (all.map g))) 0 Γ S = .ok (.nx Γ3) S ∧ I Γ3 := by
  refine floop_g _ 0 Γ (Nat.zero_le _) ?_ hI h
  show _ < (all.map g).length + 1
  rw [List.length_map]
  omega
theorem strIts_map (z : Str) : strIts z = (ts z).map fun c => .str ⟨#[c]⟩ := rfl
theorem str_fuel {z : Str} (h : z.length ≤ 1000000) : decide (fuelOf (.its (strIts z)) ≤ SZ) = true := decide_eq_true (by
  show (strIts z).length + 1 ≤ 16777216
  rw [strIts_map, List.length_map, ← len_ts]
  omega)
theorem bools_map (bs : List Bool) : boolsOf (bs.map .bool) = some bs := by
  induction bs with
  | nil => rfl
  | cons z r ih =>
    show (boolsOf (r.map .bool)).map (z :: ·) = _
    rw [ih]
    rfl
theorem for_all {α : Type} {tg : Tg} {b : SS} {S : Sto} {Γ : Env} {all : List α} (g : α → PyData) (p : α → Bool) (v : Vl) (I : Env → Prop) (hI : I Γ) (h : ∀ d ∈ all, ∀ Γ, I Γ → ∃ Γ2, tg (g d) Γ = some Γ2 ∧ (p d = true → ∃ Γ3, (b Γ2 S = .ok (.nx Γ3) S ∨ b Γ2 S = .ok (.ct Γ3) S) ∧ I Γ3) ∧ (p d = false → b Γ2 S = .ok (.rt v) S)) :
    (all.all p = true ∧ ∃ Γ3, floop tg b (.its (all.map g)) (fuelOf (.its (all.map g))) 0 Γ S = .ok (.nx Γ3) S ∧ I Γ3) ∨ (all.all p = false ∧ floop tg b (.its (all.map g)) (fuelOf (.its (all.map g))) 0 Γ S = .ok (.rt v) S) := by
  have hf := for_g (tg := tg) (b := b) (S := S) (Γ := Γ) (all := all) g (fun d => pick (p d) none (some v)) I hI fun d hd Γ hI => by
    obtain ⟨Γ2, e, h1, h2⟩ := h d hd Γ hI
    refine ⟨Γ2, e, ?_⟩
    cases hp : p d with
    | true => exact h1 hp
    | false => exact h2 hp
  have e1 : all.findSome? (fun d => pick (p d) none (some v)) = pick (all.all p) none (some v) := by
    clear hf h
    induction all with
    | nil => rfl
    | cons a l ih =>
      rw [List.findSome?_cons, List.all_cons, ih]
      cases p a <;> rfl
  rw [e1] at hf
  cases h : all.all p with
  | true =>
    rw [h] at hf
    exact .inl ⟨rfl, hf⟩
  | false =>
    rw [h] at hf
    exact .inr ⟨rfl, hf⟩
theorem len1 {c : Nat} : (⟨#[c]⟩ : Str).length = 1 := rfl
theorem len_cut {l : List Nat} {lo hi : Option Int} : (⟨(cutD l lo hi).toArray⟩ : Str).length ≤ l.length := by
  show (cutD l lo hi).toArray.size ≤ _
  simp only [List.size_toArray]
  unfold cutD
  simp only [List.length_take, List.length_drop]
  omega
theorem Sat_addS {β : Type} {a b : Str} {S : Sto} {f : Vl → Sto → R β} {Q : β → Sto → Prop} (h : a.length + b.length ≤ 16777216) (k : ∀ z : Str, z.length = a.length + b.length → ts z = ts a ++ ts b → (f (.d (.str z)) S).Sat Q) :
    ((lft S (pick (decide (a.length + b.length ≤ SZ)) (some (.str (a ++ b))) none)).bind f).Sat Q := by
  rw [decide_eq_true (show a.length + b.length ≤ SZ from h)]
  exact k _ (len_app a b) (ts_app a b)
theorem Sat_slS {β : Type} {z : Str} {lo hi : Option Int} {S : Sto} {f : Vl → Sto → R β} {Q : β → Sto → Prop} (h : z.length ≤ 16777216) (k : ∀ y : Str, y.length ≤ z.length → ts y = cutD (ts z) lo hi → (f (.d (.str y)) S).Sat Q) : ((gSl (.d (.str z)) lo hi S).bind f).Sat Q := by
  rw [v_slS, decide_eq_true (show z.length ≤ SZ from h)]
  exact k _ (Nat.le_trans len_cut (Nat.le_of_eq (len_ts z).symm)) (by simp [ts])
theorem cutD_map {α β : Type} (f : α → β) (l : List α) (lo hi : Option Int) : cutD (l.map f) lo hi = (cutD l lo hi).map f := by
  unfold cutD
  rw [List.length_map, List.map_take, List.map_drop]
theorem cutD_mem {α : Type} {l : List α} {lo hi : Option Int} {x : α} (h : x ∈ cutD l lo hi) : x ∈ l := List.mem_of_mem_drop (List.mem_of_mem_take h)
theorem cutD_len {α : Type} {l : List α} {lo hi : Option Int} : (cutD l lo hi).length ≤ l.length := by
  unfold cutD
  simp only [List.length_take, List.length_drop]
  omega
/-- every turn goes on -/
theorem for_on {α : Type} {tg : Tg} {b : SS} {S : Sto} {Γ : Env} {all : List α} (g : α → PyData) (I : Env → Prop) (hI : I Γ) (h : ∀ d ∈ all, ∀ Γ, I Γ → ∃ Γ2, tg (g d) Γ = some Γ2 ∧ ∃ Γ3, (b Γ2 S = .ok (.nx Γ3) S ∨ b Γ2 S = .ok (.ct Γ3) S) ∧ I Γ3) :
    ∃ Γ3, floop tg b (.its (all.map g)) (fuelOf (.its (all.map g))) 0 Γ S = .ok (.nx Γ3) S ∧ I Γ3 := by
  have hf := for_g (tg := tg) (b := b) (S := S) (Γ := Γ) (all := all) g (fun _ => none) I hI h
  rw [List.findSome?_eq_none_iff.mpr fun _ _ => rfl] at hf
  exact hf
/-- a for, then the rest -/
theorem Sat_forO {α β : Type} {tg : Tg} {b : SS} {S : Sto} {Γ : Env} {all : List α} {f : Fl → Sto → R β} {Q : β → Sto → Prop} {g : α → PyData} (I : List α → Env → Sto → Prop) (h0 : I all Γ S)
    (step : ∀ d rest Γ S, d ∈ all → I (d :: rest) Γ S → ∃ Γ2, tg (g d) Γ = some Γ2 ∧ (b Γ2 S).Sat fun fl S' => match fl with
      | .nx Γ' => I rest Γ' S'
      | .ct Γ' => I rest Γ' S'
      | .bk Γ' => (f (.nx Γ') S').Sat Q
      | .rt v => (f (.rt v) S').Sat Q)
    (k : ∀ Γ S, I [] Γ S → (f (.nx Γ) S).Sat Q) : ((floop tg b (.its (all.map g)) (fuelOf (.its (all.map g))) 0 Γ S).bind f).Sat Q := by
  rw [Sat_bind]
  refine Sat_for (fun ds Γ S => ∃ rest : List α, ds = rest.map g ∧ (∀ x ∈ rest, x ∈ all) ∧ I rest Γ S) ⟨all, rfl, fun _ h => h, h0⟩ ?_ ?_
  · rintro d ds Γ S ⟨rest, e, hm, hI⟩
    cases rest with
    | nil => cases e
    | cons x rest =>
      rw [List.map_cons] at e
      obtain ⟨e1, e2⟩ := List.cons.inj e
      subst e1 e2
      obtain ⟨Γ2, h1, h2⟩ := step x rest Γ S (hm x List.mem_cons_self) hI
      refine ⟨Γ2, h1, h2.mono fun fl S' h => ?_⟩
      cases fl with
      | nx Γ' => exact ⟨rest, rfl, fun y hy => hm y (List.mem_cons_of_mem _ hy), h⟩
      | ct Γ' => exact ⟨rest, rfl, fun y hy => hm y (List.mem_cons_of_mem _ hy), h⟩
      | bk Γ' => exact h
      | rt v => exact h
  · rintro Γ S ⟨rest, e, hm, hI⟩
    cases rest with
    | nil => exact k Γ S hI
    | cons x rest => cases e
theorem bools_mapg {α : Type} (f : α → Bool) (l : List α) : boolsOf (l.map fun a => .bool (f a)) = some (l.map f) := by
  rw [← bools_map, List.map_map]
  rfl
theorem strs_mapg {α : Type} (f : α → Str) (l : List α) : strsOf (l.map fun a => .str (f a)) = some (l.map f) := by
  rw [← strs_map, List.map_map]
  rfl
end L2.Pv

set_option Elab.async false
set_option linter.all false
set_option maxRecDepth 100000
namespace L2.Pv
open PySem PySem.Spec PyProof.Rows L2
theorem ord_c {c : Nat} : dOrd (.str ⟨#[c]⟩) = some (.int (c : Nat)) := rfl
theorem chr_eq {a b : Nat} : decide ((⟨#[a]⟩ : Str) = ⟨#[b]⟩) = decide (a = b) := by
  apply decide_eq_decide.mpr
  constructor
  · intro h
    have := congrArg ts h
    simpa [ts] using this
  · rintro rfl
    rfl
/-- sign by sign -/
theorem ix_str {x : Str} {k : Nat} {S : Sto} (hx : x.length ≤ 1000000) (hk : k < (ts x).length) : gIx (.d (.str x)) (.d (.int (k : Nat))) S = .ok (.d (.str ⟨#[(ts x)[k]]⟩)) S := by
  rw [v_ixS, decide_eq_true (show x.length ≤ SZ from Nat.le_trans hx (by decide)), pick_t]
  have h : atI x.cps.toList (k : Int) = some (ts x)[k] := by
    show atI (ts x) (k : Int) = _
    unfold atI ixN
    simp [hk]
  rw [h]
  rfl
/-! ### objects of a def's own, behind the store -/
theorem Tp.app {t : Nat} {S L : Sto} (h : Tp S t) : Tp (S ++ L) t := by
  obtain ⟨ns, p, c, m, e, h1, h2⟩ := h.ex
  refine ⟨ns, p, c, m, ?_, h1, h2⟩
  have hl := lst_lt e
  unfold lstOf at e ⊢
  rw [List.getElem?_append_left hl]
  exact e
theorem Tp.lt {t : Nat} {S : Sto} (h : Tp S t) : t < S.length := by
  obtain ⟨ns, p, c, m, e, h1, h2⟩ := h.ex
  exact lst_lt e
theorem Kp.split {t : Nat} {S1 L S' : Sto} (ht : t < S1.length) (h : Kp t (S1 ++ L) S') : ∃ S2, S' = S2 ++ L ∧ Kp t S1 S2 := by
  have hl := h.len
  rw [List.length_append] at hl
  have e : S' = S'.take S1.length ++ L := by
    apply List.ext_getElem?
    intro j
    by_cases hj : j < S1.length
    · rw [List.getElem?_append_left (by rw [List.length_take]; omega), List.getElem?_take, if_pos hj]
    · rw [h.eq j (by omega), List.getElem?_append_right (by omega), List.getElem?_append_right (by rw [List.length_take]; omega), List.length_take]
      congr 1
      omega
  refine ⟨_, e, ?_, by rw [List.length_take]; omega, fun j hj => ?_⟩
  · obtain ⟨ns, p, c, m, e, h1, h2⟩ := h.tp.ex
    refine ⟨ns, p, c, m, ?_, h1, h2⟩
    unfold lstOf at e ⊢
    rw [List.getElem?_take, if_pos ht]
    exact e
  · rw [List.getElem?_take]
    split
    · rename_i hlt
      rw [h.eq j hj, List.getElem?_append_left hlt]
    · rename_i hge
      rw [List.getElem?_eq_none (by omega)]
theorem Gen.thenL {β : Type} {t : Nat} {S0 S1 L : Sto} {r : R Vl} {P : Vl → Prop} {f : Vl → Sto → R β} {Q : β → Sto → Prop} (hk : Kp t S0 S1) (h : Gen t (S1 ++ L) r P) (k : ∀ v S2, P v → Kp t S0 S2 → (f v (S2 ++ L)).Sat Q) : (r.bind f).Sat Q :=
  R.Sat.bind h fun v S' ⟨a, b⟩ => by
    obtain ⟨S2, e, h2⟩ := b.split hk.tp.lt
    subst e
    exact k v S2 a (hk.trans h2)
theorem lst_own {S1 : Sto} {n : Nat} {ws : List PyData} (h : S1.length = n) : lstOf (S1 ++ [.lst ws]) n = some ws := by
  subst h
  unfold lstOf
  rw [List.getElem?_append_right (Nat.le_refl _), Nat.sub_self]
  rfl
theorem set_own {S1 : Sto} {n : Nat} {a b : Ob} (h : S1.length = n) : (S1 ++ [a]).set n b = S1 ++ [b] := by
  subst h
  rw [List.set_append_right _ _ (Nat.le_refl _), Nat.sub_self]
  rfl
theorem take_own {S1 L : Sto} {n : Nat} (h : S1.length = n) : (S1 ++ L).take n = S1 := by
  subst h
  exact List.take_left
/-- a list of the def's own goes out as data -/
theorem fin_own {S1 : Sto} {n : Nat} {ws : List PyData} (h : S1.length = n) : fin false n (.o n) (S1 ++ [Ob.lst ws]) = .ok (.d (.list ws)) S1 := by
  show (if n < n then _ else finO false n (S1 ++ [Ob.lst ws]) (S1 ++ [Ob.lst ws])[n]?) = _
  have e : (S1 ++ [Ob.lst ws])[n]? = some (Ob.lst ws) := by
    subst h
    rw [List.getElem?_append_right (Nat.le_refl _), Nat.sub_self]
    rfl
  rw [if_neg (Nat.lt_irrefl n), e]
  show R.ok (Vl.d (.list ws)) (List.take n (S1 ++ [Ob.lst ws])) = _
  rw [take_own h]
theorem app_own {S1 : Sto} {n : Nat} {ws : List PyData} {d : PyData} (h : S1.length = n) (hl : ws.length < SZ) : gAppend (.o n) [.d d] (S1 ++ [Ob.lst ws]) = .ok (.d .none) (S1 ++ [Ob.lst (ws ++ [d])]) := by
  show (match lstOf (S1 ++ [Ob.lst ws]) n with
    | some ds => if ds.length < SZ then R.ok (Vl.d .none) ((S1 ++ [Ob.lst ws]).set n (Ob.lst (ds ++ [d]))) else R.bad
    | none => R.bad) = _
  rw [lst_own h]
  show (if ws.length < SZ then _ else _) = _
  rw [if_pos hl, set_own h]
theorem met_own {S1 : Sto} {n : Nat} {ws : List PyData} {g : Vl → GL} {fs : List SE} {Γ : Env} {i : Nat} (h : S1.length = n) (hi : Γ[i]? = some (some (.o n))) : sMetO g (sVar i) fs Γ (S1 ++ [Ob.lst ws]) = (sArgs fs Γ (S1 ++ [Ob.lst ws])).bind fun vs S2 => g (.o n) vs S2 := by
  rw [x_metO, x_var, hi]
  show (match lstOf (S1 ++ [Ob.lst ws]) n with | some _ => _ | none => _) = _
  rw [lst_own h]
theorem rng_map {i : Int} {n : Nat} : rngIts i n = (List.range n).map fun (j : Nat) => .int (i + (j : Int)) := rfl
theorem rep_len {x : Str} {n : Int} : (strRep x n).length = n.toNat * x.length := by
  show ((List.replicate n.toNat x.cps.toList).flatten.toArray).size = _
  rw [List.size_toArray, List.length_flatten, List.map_replicate, List.sum_replicate_nat]
  rw [show x.cps.toList.length = x.length from (len_ts x).symm]
/-- every turn goes on -/
def On (I : Env → Sto → Prop) : Fl → Sto → Prop := fun fl S => match fl with
  | .nx Γ => I Γ S
  | .ct Γ => I Γ S
  | _ => False
theorem On_nx {I : Env → Sto → Prop} {Γ : Env} {S : Sto} : On I (.nx Γ) S = I Γ S := rfl
theorem On_ct {I : Env → Sto → Prop} {Γ : Env} {S : Sto} : On I (.ct Γ) S = I Γ S := rfl
theorem Sat_forC {α β : Type} {tg : Tg} {b : SS} {S : Sto} {Γ : Env} {all : List α} {f : Fl → Sto → R β} {Q : β → Sto → Prop} {g : α → PyData} (I : List α → Env → Sto → Prop) (h0 : I all Γ S)
    (step : ∀ d rest Γ S, d ∈ all → I (d :: rest) Γ S → ∃ Γ2, tg (g d) Γ = some Γ2 ∧ (b Γ2 S).Sat (On (I rest)))
    (k : ∀ Γ S, I [] Γ S → (f (.nx Γ) S).Sat Q) : ((floop tg b (.its (all.map g)) (fuelOf (.its (all.map g))) 0 Γ S).bind f).Sat Q :=
  Sat_forO I h0 (fun d rest Γ S hd hI => by
    obtain ⟨Γ2, e, h⟩ := step d rest Γ S hd hI
    refine ⟨Γ2, e, h.mono fun fl S' h => ?_⟩
    cases fl with
    | nx Γ' => exact h
    | ct Γ' => exact h
    | bk Γ' => exact h.elim
    | rt v => exact h.elim) k
theorem Sat_slS' {β : Type} {z : Str} {lo hi : Option Int} {S : Sto} {f : Vl → Sto → R β} {Q : β → Sto → Prop} (h : z.length ≤ 16777216) (k : ∀ y : Str, y.length = (cutD (ts z) lo hi).length → ts y = cutD (ts z) lo hi → (f (.d (.str y)) S).Sat Q) : ((gSl (.d (.str z)) lo hi S).bind f).Sat Q :=
  Sat_slS h fun y _ e => k y (by rw [len_ts, e]) e
theorem cut_to {α : Type} {l : List α} {i : Int} (h : 0 ≤ i) : cutD l none (some i) = l.take i.toNat := by
  unfold cutD HT.sIx
  simp only [List.drop_zero, Nat.sub_zero, if_neg (Int.not_lt.mpr h)]
  rw [List.take_eq_take_iff]
  omega
theorem cut_from {α : Type} {l : List α} {i : Int} (h : 0 ≤ i) : cutD l (some i) none = l.drop i.toNat := by
  unfold cutD HT.sIx
  simp only [if_neg (Int.not_lt.mpr h)]
  rw [List.take_of_length_le (by rw [List.length_drop]; exact Nat.le_refl _)]
  by_cases h2 : i.toNat ≤ l.length
  · rw [Nat.min_eq_left h2]
  · rw [Nat.min_eq_right (by omega), List.drop_length, List.drop_eq_nil_of_le (by omega)]
theorem ne_nil {l : List PyData} (hp : PyData.plainAll l = true) : dNe (.list l) (.list []) = some (.bool (!l.isEmpty)) := by
  unfold dNe dEqB
  have h : min (PyData.depth (.list l)) (PyData.depth (.list [])) ≤ 60 := Nat.le_trans (Nat.min_le_right _ _) (by decide)
  rw [if_pos ⟨h, by simpa [PyData.plain] using hp, rfl⟩]
  cases l <;> rfl
theorem eq_nil {l : List PyData} (hp : PyData.plainAll l = true) : dEq (.list l) (.list []) = some (.bool l.isEmpty) := by
  unfold dEq dEqB
  have h : min (PyData.depth (.list l)) (PyData.depth (.list [])) ≤ 60 := Nat.le_trans (Nat.min_le_right _ _) (by decide)
  rw [if_pos ⟨h, by simpa [PyData.plain] using hp, rfl⟩]
  cases l <;> rfl
theorem lt_rank {a b : Int} {x y : Str} : dLt (.tuple [.int a, .str x]) (.tuple [.int b, .str y]) = some (.bool (decide (a < b ∨ a = b ∧ ts x < ts y))) := by
  have e : dLt (.tuple [.int a, .str x]) (.tuple [.int b, .str y]) = some (.bool (PySem.W.dataLt (.tuple [.int a, .str x]) (.tuple [.int b, .str y]))) := rfl
  rw [e, PySem.W.dataLt_pair rfl rfl, PySem.W.dataLt_int, PySem.W.dataLt_str]
  have e2 : PyData.eqv (.int a) (.int b) = (a == b) := rfl
  have e3 : PyData.eqv (.str x) (.str y) = (x == y) := rfl
  rw [e2, e3]
  by_cases h : a = b
  · subst h
    by_cases h2 : x = y
    · subst h2
      have : ¬ (ts x < ts x) := fun h => List.lt_irrefl _ h
      simp [this]
    · simp [h2, ts]
  · simp [h]
end L2.Pv

set_option Elab.async false
set_option linter.all false
set_option maxRecDepth 100000
namespace L2.Pv
open PySem PySem.Spec PyProof.Rows L2
/-! ### a for over a list of the store that stays as it is -/
theorem Sat_ob_at {tg : Tg} {b : SS} {n : Nat} {ds : List PyData} {Q : Fl → Sto → Prop} (I : List PyData → Env → Sto → Prop)
    (hS : ∀ rest Γ S, I rest Γ S → lstOf S n = some ds)
    (step : ∀ d rest Γ S, d ∈ ds → I (d :: rest) Γ S → ∃ Γ2, tg d Γ = some Γ2 ∧ (b Γ2 S).Sat fun fl S' => match fl with
      | .nx Γ' => I rest Γ' S'
      | .ct Γ' => I rest Γ' S'
      | .bk Γ' => Q (.nx Γ') S'
      | .rt v => Q (.rt v) S')
    (done : ∀ Γ S, I [] Γ S → Q (.nx Γ) S) : ∀ (m i : Nat) (Γ : Env) (S : Sto), i ≤ ds.length → ds.length - i < m → I (ds.drop i) Γ S → (floop tg b (.ob n) m i Γ S).Sat Q
  | 0, i, Γ, S, h0, h1, h2 => absurd h1 (Nat.not_lt_zero _)
  | m + 1, i, Γ, S, h0, h1, h2 => by
    unfold floop
    have hs := hS _ _ _ h2
    by_cases hi : i < ds.length
    · rw [List.drop_eq_getElem_cons hi] at h2
      obtain ⟨Γ2, e1, e2⟩ := step _ _ _ _ (List.getElem_mem hi) h2
      simp only [nxt, hs, mapO_some, List.getElem?_eq_getElem hi, e1]
      refine e2.bind fun fl S' h => ?_
      cases fl with
      | nx Γ' => exact Sat_ob_at I hS step done m (i + 1) Γ' S' hi (by omega) h
      | ct Γ' => exact Sat_ob_at I hS step done m (i + 1) Γ' S' hi (by omega) h
      | bk Γ' => exact h
      | rt v => exact h
    · have e : i = ds.length := by omega
      subst e
      rw [List.drop_length] at h2
      simp only [nxt, hs, mapO_some, List.getElem?_eq_none (Nat.le_refl _)]
      exact done _ _ h2
theorem Sat_forOb {α β : Type} {tg : Tg} {b : SS} {S : Sto} {Γ : Env} {n : Nat} {all : List α} {f : Fl → Sto → R β} {Q : β → Sto → Prop} (g : α → PyData) (I : List α → Env → Sto → Prop) (hl : all.length < 1000000) (h0 : I all Γ S) (hS : ∀ rest Γ S, I rest Γ S → lstOf S n = some (all.map g))
    (step : ∀ d rest Γ S, d ∈ all → I (d :: rest) Γ S → ∃ Γ2, tg (g d) Γ = some Γ2 ∧ (b Γ2 S).Sat fun fl S' => match fl with
      | .nx Γ' => I rest Γ' S'
      | .ct Γ' => I rest Γ' S'
      | .bk Γ' => (f (.nx Γ') S').Sat Q
      | .rt v => (f (.rt v) S').Sat Q)
    (k : ∀ Γ S, I [] Γ S → (f (.nx Γ) S).Sat Q) : ((floop tg b (.ob n) (fuelOf (.ob n)) 0 Γ S).bind f).Sat Q := by
  rw [Sat_bind]
  refine Sat_ob_at (ds := all.map g) (fun ds Γ S => ∃ rest : List α, ds = rest.map g ∧ (∀ x ∈ rest, x ∈ all) ∧ I rest Γ S) ?_ ?_ ?_ _ 0 Γ S (Nat.zero_le _) ?_ ⟨all, rfl, fun _ h => h, h0⟩
  · rintro ds Γ S ⟨rest, e, hm, hI⟩
    exact hS _ _ _ hI
  · rintro d ds Γ S _ ⟨rest, e, hm, hI⟩
    cases rest with
    | nil => cases e
    | cons x rest =>
      rw [List.map_cons] at e
      obtain ⟨e1, e2⟩ := List.cons.inj e
      subst e1 e2
      obtain ⟨Γ2, h1, h2⟩ := step x rest Γ S (hm x List.mem_cons_self) hI
      refine ⟨Γ2, h1, h2.mono fun fl S' h => ?_⟩
      cases fl with
      | nx Γ' => exact ⟨rest, rfl, fun y hy => hm y (List.mem_cons_of_mem _ hy), h⟩
      | ct Γ' => exact ⟨rest, rfl, fun y hy => hm y (List.mem_cons_of_mem _ hy), h⟩
      | bk Γ' => exact h
      | rt v => exact h
  · rintro Γ S ⟨rest, e, hm, hI⟩
    cases rest with
    | nil => exact k Γ S hI
    | cons x rest => cases e
  · show (all.map g).length - 0 < 1000000
    rw [List.length_map]
    omega
theorem Sat_forObC {α β : Type} {tg : Tg} {b : SS} {S : Sto} {Γ : Env} {n : Nat} {all : List α} {f : Fl → Sto → R β} {Q : β → Sto → Prop} (g : α → PyData) (I : List α → Env → Sto → Prop) (hl : all.length < 1000000) (h0 : I all Γ S) (hS : ∀ rest Γ S, I rest Γ S → lstOf S n = some (all.map g))
    (step : ∀ d rest Γ S, d ∈ all → I (d :: rest) Γ S → ∃ Γ2, tg (g d) Γ = some Γ2 ∧ (b Γ2 S).Sat (On (I rest)))
    (k : ∀ Γ S, I [] Γ S → (f (.nx Γ) S).Sat Q) : ((floop tg b (.ob n) (fuelOf (.ob n)) 0 Γ S).bind f).Sat Q :=
  Sat_forOb g I hl h0 hS (fun d rest Γ S hd hI => by
    obtain ⟨Γ2, e, h⟩ := step d rest Γ S hd hI
    refine ⟨Γ2, e, h.mono fun fl S' h => ?_⟩
    cases fl with
    | nx Γ' => exact h
    | ct Γ' => exact h
    | bk Γ' => exact h.elim
    | rt v => exact h.elim) k
theorem lst_ownJ {S1 L : Sto} {n j : Nat} (h : S1.length = n) : lstOf (S1 ++ L) (n + j) = lstOf L j := by
  subst h
  unfold lstOf
  rw [List.getElem?_append_right (by omega), Nat.add_sub_cancel_left]
theorem lst_own0 {S1 L : Sto} {n : Nat} (h : S1.length = n) : lstOf (S1 ++ L) n = lstOf L 0 := lst_ownJ (j := 0) h
theorem set_ownJ {S1 L : Sto} {n j : Nat} {o : Ob} (h : S1.length = n) : (S1 ++ L).set (n + j) o = S1 ++ L.set j o := by
  subst h
  rw [List.set_append_right _ _ (by omega), Nat.add_sub_cancel_left]
theorem set_own0 {S1 L : Sto} {n : Nat} {o : Ob} (h : S1.length = n) : (S1 ++ L).set n o = S1 ++ L.set 0 o := set_ownJ (j := 0) h
theorem e_append {n : Nat} {d : PyData} {S : Sto} {ws : List PyData} (h : lstOf S n = some ws) (hl : ws.length < SZ) : gAppend (.o n) [.d d] S = .ok (.d .none) (S.set n (.lst (ws ++ [d]))) := by
  show (match lstOf S n with
    | some ds => if ds.length < SZ then R.ok (Vl.d .none) (S.set n (.lst (ds ++ [d]))) else R.bad
    | none => R.bad) = _
  rw [h]
  show (if ws.length < SZ then _ else _) = _
  rw [if_pos hl]
theorem e_pop1 {n : Nat} {i : Int} {S : Sto} {ws : List PyData} (h : lstOf S n = some ws) (hl : ws.length ≤ SZ) (h0 : 0 ≤ i) (h1 : i < ws.length) : gPop1 (.o n) [.d (.int i)] S = .ok (.d (ws[i.toNat]'(by omega))) (S.set n (.lst (ws.eraseIdx i.toNat))) := by
  have hx : ixN ws.length i = some i.toNat := by
    unfold ixN
    rw [if_pos h0, if_pos h1]
  have e : gPop (.o n) [.d (.int i)] S = (match lstOf S n with
    | some ds => (match ixN ds.length i with
      | some j => match ds[j]? with
        | some d => R.ok (Vl.d d) (S.set n (.lst (ds.eraseIdx j)))
        | none => R.bad
      | none => R.bad)
    | none => R.bad) := rfl
  show (match lstOf S n with
    | some ds => if ds.length ≤ SZ ∧ [Vl.d (.int i)].length = 1 then gPop (.o n) [.d (.int i)] S else R.bad
    | none => R.bad) = _
  rw [h]
  show (if ws.length ≤ SZ ∧ [Vl.d (.int i)].length = 1 then gPop (.o n) [.d (.int i)] S else R.bad) = _
  rw [if_pos ⟨hl, rfl⟩, e, h]
  simp only [hx, List.getElem?_eq_getElem (show i.toNat < ws.length by omega)]
theorem cloop_filtO {α : Type} {tg : Tg} {tst : ST} {elt : SE} {Γ : Env} {S : Sto} {n : Nat} {g : α → PyData} {p : α → Bool} {f : α → PyData} {all : List α} (hS : lstOf S n = some (all.map g)) : ∀ (m i : Nat), i ≤ all.length → all.length - i < m →
    (∀ d ∈ all, ∃ Γ2, tg (g d) Γ = some Γ2 ∧ tst Γ2 S = .ok (p d) S ∧ (p d = true → elt Γ2 S = .ok (.d (f d)) S)) →
    cloop tg tst elt Γ (.ob n) m i S = .ok (((all.drop i).filter p).map f) S
  | 0, i, h0, h1, h => absurd h1 (Nat.not_lt_zero _)
  | m + 1, i, h0, h1, h => by
    unfold cloop
    by_cases hi : i < all.length
    · obtain ⟨Γ2, e1, e2, e3⟩ := h all[i] (List.getElem_mem hi)
      rw [List.drop_eq_getElem_cons hi, List.filter_cons]
      cases hp : p all[i] with
      | true =>
        simp only [nxt, hS, List.getElem?_map, List.getElem?_eq_getElem hi, mapO_some, e1, e2, hp, e3 hp, R.bind, cloop_filtO hS m (i + 1) hi (by omega) h]
        rfl
      | false =>
        simp only [nxt, hS, List.getElem?_map, List.getElem?_eq_getElem hi, mapO_some, e1, e2, hp, R.bind, cloop_filtO hS m (i + 1) hi (by omega) h]
        rfl
    · have e : i = all.length := by omega
      subst e
      simp only [nxt, hS, List.getElem?_map, mapO_some, mapO_none, List.getElem?_eq_none (Nat.le_refl _), List.drop_length, List.map_nil, List.filter_nil]
theorem comp_filtO {α : Type} {tg : Tg} {tst : ST} {elt : SE} {Γ : Env} {S : Sto} {n : Nat} {all : List α} (g : α → PyData) (p : α → Bool) (f : α → PyData) (hS : lstOf S n = some (all.map g)) (hl : all.length < 1000000) (h : ∀ d ∈ all, ∃ Γ2, tg (g d) Γ = some Γ2 ∧ tst Γ2 S = .ok (p d) S ∧ (p d = true → elt Γ2 S = .ok (.d (f d)) S)) :
    cloop tg tst elt Γ (.ob n) (fuelOf (.ob n)) 0 S = .ok ((all.filter p).map f) S := cloop_filtO hS _ 0 (Nat.zero_le _) (show _ < 1000000 by omega) h
theorem comp_mapO {α : Type} {tg : Tg} {elt : SE} {Γ : Env} {S : Sto} {n : Nat} {all : List α} (g : α → PyData) (f : α → PyData) (hS : lstOf S n = some (all.map g)) (hl : all.length < 1000000) (h : ∀ d ∈ all, ∃ Γ2, tg (g d) Γ = some Γ2 ∧ elt Γ2 S = .ok (.d (f d)) S) :
    cloop tg sYes elt Γ (.ob n) (fuelOf (.ob n)) 0 S = .ok (all.map f) S := by
  have e := comp_filtO (tst := sYes) g (fun _ => true) f hS hl fun d hd => by
    obtain ⟨Γ2, e1, e2⟩ := h d hd
    exact ⟨Γ2, e1, rfl, fun _ => e2⟩
  rw [e, List.filter_eq_self.mpr fun _ _ => rfl]
theorem lst_appL {S L : Sto} {n : Nat} {ds : List PyData} (h : lstOf S n = some ds) : lstOf (S ++ L) n = some ds := by
  have hl := lst_lt h
  unfold lstOf at h ⊢
  rw [List.getElem?_append_left hl]
  exact h
theorem ob_fuel {n : Nat} : decide (fuelOf (.ob n) ≤ SZ) = true := decide_eq_true (show 1000000 ≤ 16777216 by decide)
theorem Kp.lst {t n : Nat} {S S' : Sto} {ds : List PyData} (h : Kp t S S') (hn : n ≠ t) (e : lstOf S n = some ds) : lstOf S' n = some ds := by
  unfold lstOf at e ⊢
  rw [h.eq n hn]
  exact e
theorem l_srcO {S : Sto} {n : Nat} {ds : List PyData} (h : lstOf S n = some ds) : srcOf S (.o n) = some (.ob n) := by
  show (lstOf S n).map (fun _ => Src.ob n) = _
  rw [h]
  rfl
/-- a body at its end: the same as the body and what is behind -/
theorem Sat_end_id {α : Type} {r : R α} {Q : α → Sto → Prop} (h : (r.bind fun a S => .ok a S).Sat Q) : r.Sat Q := by
  cases r with
  | ok a S => exact h
  | bad => exact h
/-! ### membership -/
theorem eqv_str (a b : Str) : PyData.eqv (.str a) (.str b) = (a == b) := rfl
theorem any_strs (l : List Str) (c : Str) : (l.map PyData.str).any (fun z => PyData.eqv z (.str c)) = decide (c ∈ l) := by
  rw [List.any_map]
  induction l with
  | nil => simp
  | cons a r ih =>
    rw [List.any_cons, ih]
    show (PyData.eqv (.str a) (.str c) || decide (c ∈ r)) = _
    rw [eqv_str]
    by_cases h : a = c
    · subst h; simp
    · have h2 : ¬ c = a := fun e => h e.symm
      simp [h, h2]
theorem plain_map {α : Type} {f : α → PyData} (h : ∀ x, (f x).plain = true) : ∀ l : List α, PyData.plainAll (l.map f) = true
  | [] => rfl
  | a :: l => by
    rw [List.map_cons]
    simp only [PyData.plainAll, h, plain_map h l, Bool.and_self]
theorem plain_strs (l : List Str) : PyData.plainAll (l.map .str) = true := plain_map (fun _ => rfl) l
theorem in_strs (l : List Str) (c : Str) : dIn (.str c) (.list (l.map .str)) = some (.bool (decide (c ∈ l))) := by
  have h : min (PyData.depthAll (l.map .str)) (PyData.depth (.str c)) ≤ 60 := Nat.le_trans (Nat.min_le_right _ _) (show 0 ≤ 60 by decide)
  show obl (if min (PyData.depthAll (l.map .str)) (PyData.depth (.str c)) ≤ 60 ∧ PyData.plainAll (l.map .str) = true ∧ PyData.plain (.str c) = true then some ((l.map PyData.str).any fun z => PyData.eqv z (.str c)) else none) = _
  rw [if_pos ⟨h, plain_strs l, rfl⟩, any_strs]
  rfl
theorem nin_strs (l : List Str) (c : Str) : dNotIn (.str c) (.list (l.map .str)) = some (.bool (!decide (c ∈ l))) := by
  have h : min (PyData.depthAll (l.map .str)) (PyData.depth (.str c)) ≤ 60 := Nat.le_trans (Nat.min_le_right _ _) (show 0 ≤ 60 by decide)
  show obl (onot (if min (PyData.depthAll (l.map .str)) (PyData.depth (.str c)) ≤ 60 ∧ PyData.plainAll (l.map .str) = true ∧ PyData.plain (.str c) = true then some ((l.map PyData.str).any fun z => PyData.eqv z (.str c)) else none)) = _
  rw [if_pos ⟨h, plain_strs l, rfl⟩, any_strs]
  rfl
/-- distinct ones among others are no more than these -/
theorem nodup_le {α : Type} [DecidableEq α] : ∀ {l m : List α}, l.Nodup → (∀ x ∈ l, x ∈ m) → l.length ≤ m.length
  | [], _, _, _ => Nat.zero_le _
  | a :: r, m, h, hs => by
    have h1 := List.nodup_cons.mp h
    have ha := hs a List.mem_cons_self
    have ih := nodup_le (l := r) (m := m.erase a) h1.2 fun x hx => (List.mem_erase_of_ne (fun e : x = a => h1.1 (by rw [← e]; exact hx))).mpr (hs x (List.mem_cons_of_mem _ hx))
    rw [List.length_erase_of_mem ha] at ih
    have : 0 < m.length := List.length_pos_of_mem ha
    rw [List.length_cons]
    omega
/-! ### plain data is the same as itself -/
inductive Plain : PyData → Prop
  | non : Plain .none
  | bl (b : Bool) : Plain (.bool b)
  | int (i : Int) : Plain (.int i)
  | str (x : Str) : Plain (.str x)
  | tup (ds : List PyData) (h : ∀ d ∈ ds, Plain d) (hl : ds.length ≤ 900000) : Plain (.tuple ds)
theorem depth_mem {ds : List PyData} {d : PyData} (h : d ∈ ds) : d.depth ≤ PyData.depthAll ds := by
  induction ds with
  | nil => cases h
  | cons a r ih =>
    show _ ≤ max a.depth (PyData.depthAll r)
    rcases List.mem_cons.mp h with rfl | h
    · exact Nat.le_max_left _ _
    · exact Nat.le_trans (ih h) (Nat.le_max_right _ _)
theorem depth_all {ds : List PyData} {n : Nat} (h : ∀ d ∈ ds, d.depth ≤ n) : PyData.depthAll ds ≤ n := by
  induction ds with
  | nil => exact Nat.zero_le _
  | cons a r ih => exact Nat.max_le.mpr ⟨h a List.mem_cons_self, ih fun d hd => h d (List.mem_cons_of_mem _ hd)⟩
theorem atI_nat {α : Type} {ds : List α} {j : Nat} (h : j < ds.length) : atI ds (j : Int) = some ds[j] := by
  unfold atI ixN
  simp [h]
end L2.Pv

set_option Elab.async false
set_option linter.all false
set_option maxRecDepth 100000
namespace L2.Pv
open PySem PySem.Spec PyProof.Rows L2
/-! ### while -/
theorem Sat_wloop {c : ST} {b : SS} {Q : Fl → Sto → Prop} (I : Nat → Env → Sto → Prop)
    (step : ∀ m Γ S, I m Γ S → (c Γ S).Sat fun x S1 => match x with
      | true => (b Γ S1).Sat fun fl S2 => match fl with
        | .nx Γ' => ∃ m', m' < m ∧ I m' Γ' S2
        | .ct Γ' => ∃ m', m' < m ∧ I m' Γ' S2
        | .bk Γ' => Q (.nx Γ') S2
        | .rt v => Q (.rt v) S2
      | false => Q (.nx Γ) S1) : ∀ (n m : Nat) (Γ : Env) (S : Sto), m < n → I m Γ S → (wloop c b n Γ S).Sat Q
  | 0, m, Γ, S, h, _ => absurd h (Nat.not_lt_zero _)
  | n + 1, m, Γ, S, h, hI => by
    unfold wloop
    refine (step m Γ S hI).bind fun x S1 hx => ?_
    cases x with
    | false =>
      rw [if_neg Bool.false_ne_true]
      exact hx
    | true =>
      rw [if_pos rfl]
      refine R.Sat.bind hx fun fl S2 h2 => ?_
      cases fl with
      | nx Γ' =>
        obtain ⟨m', h3, h4⟩ := h2
        exact Sat_wloop I step n m' Γ' S2 (by omega) h4
      | ct Γ' =>
        obtain ⟨m', h3, h4⟩ := h2
        exact Sat_wloop I step n m' Γ' S2 (by omega) h4
      | bk Γ' => exact h2
      | rt v => exact h2
theorem Sat_while {β : Type} {c : ST} {b : SS} {f : Fl → Sto → R β} {Q : β → Sto → Prop} {Γ : Env} {S : Sto} (I : Nat → Env → Sto → Prop) (m : Nat) (hm : m < 1000000) (h0 : I m Γ S)
    (step : ∀ m Γ S, I m Γ S → (c Γ S).Sat fun x S1 => match x with
      | true => (b Γ S1).Sat fun fl S2 => match fl with
        | .nx Γ' => ∃ m', m' < m ∧ I m' Γ' S2
        | .ct Γ' => ∃ m', m' < m ∧ I m' Γ' S2
        | .bk Γ' => (f (.nx Γ') S2).Sat Q
        | .rt v => (f (.rt v) S2).Sat Q
      | false => (f (.nx Γ) S1).Sat Q) : ((sWhile c b Γ S).bind f).Sat Q := by
  rw [Sat_bind]
  exact Sat_wloop I step _ m Γ S hm h0
/-! ### places of items -/
def pAt {α : Type} (P : α → Bool) (l : List α) (i : Nat) : Bool := match l[i]? with
  | some x => P x
  | none => false
theorem idx_first {α : Type} (P : α → Bool) : ∀ {l : List α}, l.any P = true → ∃ j r, (List.range l.length).filter (pAt P l) = j :: r ∧ j < l.length ∧ l.take j = l.takeWhile (fun x => !P x)
  | [], h => by cases h
  | a :: l, h => by
    rw [List.length_cons, List.range_succ_eq_map, List.filter_cons, List.filter_map]
    cases ha : P a with
    | true =>
      rw [if_pos (show pAt P (a :: l) 0 = true from ha)]
      exact ⟨0, _, rfl, Nat.succ_pos _, by rw [List.takeWhile_cons, if_neg (by rw [ha]; decide)]; rfl⟩
    | false =>
      rw [if_neg (by show ¬(P a = true); rw [ha]; decide)]
      have h2 : l.any P = true := by rw [List.any_cons, ha] at h; exact h
      obtain ⟨j, r, h3, h4, h5⟩ := idx_first P h2
      have e : (fun i => pAt P (a :: l) i) ∘ Nat.succ = pAt P l := rfl
      refine ⟨j + 1, r.map Nat.succ, ?_, by omega, ?_⟩
      · rw [show (pAt P (a :: l) ∘ Nat.succ) = pAt P l from rfl, h3]
        rfl
      · rw [List.takeWhile_cons, if_pos (by rw [ha]; rfl), List.take_succ_cons, h5]
theorem idx_last {α : Type} (P : α → Bool) (l : List α) : match l.foldl (fun f x => if P x = true then some x else f) none with
    | none => (List.range l.length).filter (pAt P l) = []
    | some x => ∃ j r, (List.range l.length).filter (pAt P l) = r ++ [j] ∧ l[j]? = some x := by
  have gen : ∀ (l2 l1 : List α) (o : Option α), (match o with
      | none => (List.range l1.length).filter (pAt P (l1 ++ l2)) = []
      | some x => ∃ j r, (List.range l1.length).filter (pAt P (l1 ++ l2)) = r ++ [j] ∧ (l1 ++ l2)[j]? = some x) →
      match l2.foldl (fun f x => if P x = true then some x else f) o with
      | none => (List.range (l1 ++ l2).length).filter (pAt P (l1 ++ l2)) = []
      | some x => ∃ j r, (List.range (l1 ++ l2).length).filter (pAt P (l1 ++ l2)) = r ++ [j] ∧ (l1 ++ l2)[j]? = some x := by
    intro l2
    induction l2 with
    | nil =>
      intro l1 o h
      rw [List.append_nil] at h ⊢
      exact h
    | cons a r ih =>
      intro l1 o h
      have e : l1 ++ a :: r = (l1 ++ [a]) ++ r := by simp
      rw [List.foldl_cons, e]
      refine ih (l1 ++ [a]) _ ?_
      rw [← e]
      have hp : pAt P (l1 ++ a :: r) l1.length = P a := by
        unfold pAt
        rw [List.getElem?_append_right (Nat.le_refl _), Nat.sub_self]
        rfl
      have hl : (l1 ++ [a]).length = l1.length + 1 := by simp
      rw [hl, List.range_succ, List.filter_append, List.filter_cons, List.filter_nil, hp]
      cases ha : P a with
      | true =>
        rw [if_pos rfl, if_pos rfl]
        exact ⟨l1.length, _, rfl, by rw [List.getElem?_append_right (Nat.le_refl _), Nat.sub_self]; rfl⟩
      | false =>
        rw [if_neg Bool.false_ne_true, if_neg Bool.false_ne_true]
        cases o with
        | none =>
          show _ ++ [] = []
          rw [List.append_nil]
          exact h
        | some x =>
          show ∃ j r_1, _ ++ [] = r_1 ++ [j] ∧ _
          rw [List.append_nil]
          exact h
  exact gen l [] none rfl
theorem atI_in {α : Type} {xs : List α} {i : Int} (h : 0 ≤ i) (h2 : i < xs.length) : ∃ x, atI xs i = some x ∧ x ∈ xs := by
  unfold atI ixN
  obtain ⟨j, rfl⟩ := Int.eq_ofNat_of_zero_le h
  have h3 : j < xs.length := by omega
  refine ⟨xs[j], ?_, List.getElem_mem h3⟩
  simp [h3]
theorem takeWhile_all {α : Type} {P : α → Bool} : ∀ {l : List α}, (∀ x ∈ l, P x = true) → l.takeWhile P = l
  | [], _ => rfl
  | a :: l, h => by
    rw [List.takeWhile_cons, if_pos (h a List.mem_cons_self), takeWhile_all fun x hx => h x (List.mem_cons_of_mem _ hx)]
/-! ### two clauses -/
theorem cloop2_pure {α : Type} {tg tg1 : Tg} {tst tst1 : ST} {it1 : SI} {elt : SE} {vs1 : List Nat} {Γ : Env} {S : Sto} {g : α → PyData} {r : α → List PyData} {all : List α} : ∀ (n i : Nat), i ≤ all.length → all.length - i < n →
    (∀ d ∈ all, ∃ Γ2 src1, tg (g d) Γ = some Γ2 ∧ tst Γ2 S = .ok true S ∧ it1 Γ2 S = .ok src1 S ∧ cloop tg1 tst1 elt (wipeE Γ2 vs1) src1 (fuelOf src1) 0 S = .ok (r d) S) →
    cloop2 tg tst it1 tg1 tst1 elt vs1 Γ (.its (all.map g)) n i S = .ok ((all.drop i).flatMap r) S
  | 0, i, h0, h1, h => absurd h1 (Nat.not_lt_zero _)
  | n + 1, i, h0, h1, h => by
    unfold cloop2
    by_cases hi : i < all.length
    · obtain ⟨Γ2, src1, e1, e2, e3, e4⟩ := h all[i] (List.getElem_mem hi)
      rw [List.drop_eq_getElem_cons hi, List.flatMap_cons]
      simp only [nxt, List.getElem?_map, List.getElem?_eq_getElem hi, mapO_some, e1, e2, e3, e4, R.bind, cloop2_pure n (i + 1) hi (by omega) h]
      rfl
    · have e : i = all.length := by omega
      subst e
      simp only [nxt, List.getElem?_map, mapO_none, List.getElem?_eq_none (Nat.le_refl _), List.drop_length, List.flatMap_nil]
theorem comp2_pure {α : Type} {tg tg1 : Tg} {tst tst1 : ST} {it1 : SI} {elt : SE} {vs1 : List Nat} {Γ : Env} {S : Sto} {all : List α} (g : α → PyData) (r : α → List PyData)
    (h : ∀ d ∈ all, ∃ Γ2 src1, tg (g d) Γ = some Γ2 ∧ tst Γ2 S = .ok true S ∧ it1 Γ2 S = .ok src1 S ∧ cloop tg1 tst1 elt (wipeE Γ2 vs1) src1 (fuelOf src1) 0 S = .ok (r d) S) :
    cloop2 tg tst it1 tg1 tst1 elt vs1 Γ (.its (all.map g)) (fuelOf (.its (all.map g))) 0 S = .ok (all.flatMap r) S := by
  refine cloop2_pure _ 0 (Nat.zero_le _) ?_ h
  show _ < (all.map g).length + 1
  rw [List.length_map]
  omega
/-! ### a for over a list of the store from behind -/
theorem nxt_rv {S : Sto} {n i : Nat} {ds : List PyData} (h : lstOf S n = some ds) : nxt (.rv n ds.length) S i = some ds.reverse[i]? := by
  show nxtV (lstOf S n) ds.length i = _
  rw [h]
  show (if i < ds.length then (ds[ds.length - 1 - i]?).map some else some none) = _
  by_cases hi : i < ds.length
  · rw [if_pos hi, List.getElem?_reverse hi, List.getElem?_eq_getElem (by omega)]
    rfl
  · rw [if_neg hi, List.getElem?_eq_none (by rw [List.length_reverse]; omega)]
theorem floop_rv {tg : Tg} {b : SS} {n : Nat} {ds : List PyData} {Q : Fl → Sto → Prop} (I : List PyData → Env → Sto → Prop) (hS : ∀ rest Γ S, I rest Γ S → lstOf S n = some ds)
    (step : ∀ d rest Γ S, d ∈ ds → I (d :: rest) Γ S → ∃ Γ2, tg d Γ = some Γ2 ∧ (b Γ2 S).Sat fun fl S' => match fl with
      | .nx Γ' => I rest Γ' S'
      | .ct Γ' => I rest Γ' S'
      | .bk Γ' => Q (.nx Γ') S'
      | .rt v => Q (.rt v) S')
    (done : ∀ Γ S, I [] Γ S → Q (.nx Γ) S) : ∀ (m i : Nat) (Γ : Env) (S : Sto), i ≤ ds.length → ds.length - i < m → I (ds.reverse.drop i) Γ S → (floop tg b (.rv n ds.length) m i Γ S).Sat Q
  | 0, i, Γ, S, h0, h1, h2 => absurd h1 (Nat.not_lt_zero _)
  | m + 1, i, Γ, S, h0, h1, h2 => by
    unfold floop
    have hs := hS _ _ _ h2
    rw [nxt_rv hs]
    by_cases hi : i < ds.length
    · have hi2 : i < ds.reverse.length := by rw [List.length_reverse]; exact hi
      rw [List.drop_eq_getElem_cons hi2] at h2
      obtain ⟨Γ2, e1, e2⟩ := step _ _ _ _ (List.mem_reverse.mp (List.getElem_mem hi2)) h2
      simp only [List.getElem?_eq_getElem hi2, e1]
      refine e2.bind fun fl S' h => ?_
      cases fl with
      | nx Γ' => exact floop_rv I hS step done m (i + 1) Γ' S' hi (by omega) h
      | ct Γ' => exact floop_rv I hS step done m (i + 1) Γ' S' hi (by omega) h
      | bk Γ' => exact h
      | rt v => exact h
    · have e : i = ds.length := by omega
      subst e
      rw [List.drop_of_length_le (by rw [List.length_reverse]; exact Nat.le_refl _)] at h2
      simp only [List.getElem?_eq_none (show ds.reverse.length ≤ ds.length by rw [List.length_reverse]; exact Nat.le_refl _)]
      exact done _ _ h2
theorem Sat_forRv {α β : Type} {tg : Tg} {b : SS} {S : Sto} {Γ : Env} {n : Nat} {all : List α} {f : Fl → Sto → R β} {Q : β → Sto → Prop} {len : Nat} (g : α → PyData) (I : List α → Env → Sto → Prop) (hl : len = all.length) (h0 : I all.reverse Γ S) (hS : ∀ rest Γ S, I rest Γ S → lstOf S n = some (all.map g))
    (step : ∀ d rest Γ S, d ∈ all → I (d :: rest) Γ S → ∃ Γ2, tg (g d) Γ = some Γ2 ∧ (b Γ2 S).Sat fun fl S' => match fl with
      | .nx Γ' => I rest Γ' S'
      | .ct Γ' => I rest Γ' S'
      | .bk Γ' => (f (.nx Γ') S').Sat Q
      | .rt v => (f (.rt v) S').Sat Q)
    (k : ∀ Γ S, I [] Γ S → (f (.nx Γ) S).Sat Q) : ((floop tg b (.rv n len) (fuelOf (.rv n len)) 0 Γ S).bind f).Sat Q := by
  rw [Sat_bind]
  have hlen : len = (all.map g).length := by rw [List.length_map]; exact hl
  rw [hlen]
  refine floop_rv (ds := all.map g) (fun ds Γ S => ∃ rest : List α, ds = rest.map g ∧ (∀ x ∈ rest, x ∈ all) ∧ I rest Γ S) ?_ ?_ ?_ _ 0 Γ S (Nat.zero_le _) ?_ ⟨all.reverse, by rw [List.drop_zero, List.map_reverse], fun _ h => List.mem_reverse.mp h, h0⟩
  · rintro ds Γ S ⟨rest, e, hm, hI⟩
    exact hS _ _ _ hI
  · rintro d ds Γ S _ ⟨rest, e, hm, hI⟩
    cases rest with
    | nil => cases e
    | cons x rest =>
      rw [List.map_cons] at e
      obtain ⟨e1, e2⟩ := List.cons.inj e
      subst e1 e2
      obtain ⟨Γ2, h1, h2⟩ := step x rest Γ S (hm x List.mem_cons_self) hI
      refine ⟨Γ2, h1, h2.mono fun fl S' h => ?_⟩
      cases fl with
      | nx Γ' => exact ⟨rest, rfl, fun y hy => hm y (List.mem_cons_of_mem _ hy), h⟩
      | ct Γ' => exact ⟨rest, rfl, fun y hy => hm y (List.mem_cons_of_mem _ hy), h⟩
      | bk Γ' => exact h
      | rt v => exact h
  · rintro Γ S ⟨rest, e, hm, hI⟩
    cases rest with
    | nil => exact k Γ S hI
    | cons x rest => cases e
  · show (all.map g).length - 0 < (all.map g).length + 1
    omega
end L2.Pv

set_option Elab.async false
set_option linter.all false
set_option maxRecDepth 100000
namespace L2.Pv
open PySem PySem.Spec PyProof.Rows L2
/-! ### the defs of the text, what they mean (printed by gen.py) -/
def topS (i : Nat) : Stmt := PySem.Challenge.pw_hookcheck_k78_whole_certificates.main.body.getD i (.Pass ⟨0, 0, 0, 0⟩)
def G : List (Str × GE) := ("is_at_rest", .fn 1) :: ("first_schedules", .fn 2) :: ("ends_from", .fn 2) :: ("table_conflict", .fn 1) :: ("first_return", .fn 2) :: ("table_fight", .fn 1) :: ("height_above", .fn 2) :: ("heights", .fn 1) :: ("takes_ranks", .fn 2) :: ("end_marks", .fn 1) :: ("takes_open", .fn 2) :: ("takes_end", .fn 3) :: ("takes_marks", .fn 2) :: ("_law_tape", .fn 1) :: ("_law_draw", .fn 2) :: ("_law_table", .fn 1) :: ("_law_led_to", .fn 3) :: ("_law_is_end", .fn 2) :: ("_law_drawn_way", .fn 2) :: ("_law_true_fight", .fn 2) :: ("_law_true_conflict", .fn 2) :: ("law", .fn 1) :: ("all", .blt .all) :: ("tuple", .blt .tuple) :: ("range", .blt .range) :: ("enumerate", .blt .enumerate) :: ("len", .blt .len) :: ("list", .blt .list) :: ("max", .blt .max) :: ("int", .blt .int) :: ("isinstance", .blt .isinstance) :: ("abs", .blt .abs) :: ("bool", .blt .bool) :: []
def b_is_at_rest (call : Str → GL) : SS :=
  (sRet (sCall (arg1 gAll) [(sComp [1] (sIter (sVar 0)) (tNm 1) sYes (sBin (gIsN false) (sVar 1) (sCon .none)))]))
def b_first_schedules (call : Str → GL) : SS :=
  (sSeq (sSet 2 (sCall gNew [(sCall gTup [(sCall gTup []), (sVar 1)])]))
  (sSeq (sSet 3 (sDct1 (sVar 1) (sCon (.bool true))))
  (sSeq (sSet 4 (sCon (.int 0)))
  (sSeq (sWhile (sTst (sBin (cmp2 dLt) (sVar 4) (sCall (arg1 gLen) [(sVar 2)])))
  (sSeq (sAsg (tTp [5, 6]) (sBin gIx (sVar 2) (sVar 4)))
  (sSeq (sSet 4 (sBin gAdd (sVar 4) (sCon (.int 1))))
  (sSeq (sIte (sTst (sBin (cmp2 dEq) (sVar 6) (sCon (.str "out"))))
  sCnt
  sSkip)
  (sFor (sEnum (sBin gIx (sVar 0) (sVar 6))) (tTp [7, 8])
  (sIte (sAnd (sTst (sBin (gIsN true) (sVar 8) (sCon .none))) (sTst (sBin (cmp2 dNotIn) (sVar 8) (sVar 3))))
  (sSeq (sPut (sVar 3) (sVar 8) (sCon (.bool true)))
  (sDrop (sMetO gAppend (sVar 2) [(sCall gTup [(sBin gAdd (sVar 5) (sCall gTup [(sVar 7)])), (sVar 8)])])))
  sSkip))))))
  (sRet (sVar 2))))))
def b_ends_from (call : Str → GL) : SS :=
  (sSeq (sSet 2 (sCall gNew []))
  (sSeq (sFor (sIter (sCall (call "first_schedules") [(sVar 0), (sVar 1)])) (tTp [3, 4])
  (sIte (sOr (sTst (sBin (cmp2 dEq) (sVar 4) (sCon (.str "out")))) (sTru (sCall (call "is_at_rest") [(sBin gIx (sVar 0) (sVar 4))])))
  (sDrop (sMetO gAppend (sVar 2) [(sCall gTup [(sVar 3), (sVar 4)])]))
  sSkip))
  (sRet (sCall (arg1 gTuple) [(sVar 2)]))))
def b_table_conflict (call : Str → GL) : SS :=
  (sSeq (sFor (sRng1 (sCall (arg1 gLen) [(sVar 0)])) (tNm 1)
  (sSeq (sSet 2 (sCall (call "ends_from") [(sVar 0), (sVar 1)]))
  (sIte (sTst (sBin (cmp2 dGt) (sCall (arg1 gLen) [(sVar 2)]) (sCon (.int 1))))
  (sRet (sCall gTup [(sVar 1), (sBin gIx (sVar 2) (sCon (.int 0))), (sBin gIx (sVar 2) (sCon (.int 1)))]))
  sSkip)))
  (sRet (sCon .none)))
def b_first_return (call : Str → GL) : SS :=
  (sSeq (sFor (sIter (sCall (call "first_schedules") [(sVar 0), (sVar 1)])) (tTp [2, 3])
  (sIte (sAnd (sTst (sBin (cmp2 dNe) (sVar 3) (sCon (.str "out")))) (sTst (sBin (cmp2 dIn) (sVar 1) (sBin gIx (sVar 0) (sVar 3)))))
  (sRet (sBin gAdd (sVar 2) (sCall gTup [(sMetT gIndexT (sBin gIx (sVar 0) (sVar 3)) [(sVar 1)])])))
  sSkip))
  (sRet (sCon .none)))
def b_table_fight (call : Str → GL) : SS :=
  (sSeq (sSet 1 (sCon .none))
  (sSeq (sFor (sRng1 (sCall (arg1 gLen) [(sVar 0)])) (tNm 2)
  (sSeq (sSet 3 (sCall (call "first_return") [(sVar 0), (sVar 2)]))
  (sIte (sAnd (sTst (sBin (gIsN true) (sVar 3) (sCon .none))) (sOr (sTst (sBin (gIsN false) (sVar 1) (sCon .none))) (sTst (sBin (cmp2 dLt) (sCall (arg1 gLen) [(sVar 3)]) (sCall (arg1 gLen) [(sBin gIx (sVar 1) (sCon (.int 1)))])))))
  (sSet 1 (sCall gTup [(sVar 2), (sVar 3)]))
  sSkip)))
  (sRet (sVar 1))))
def b_height_above (call : Str → GL) : SS :=
  (sSeq (sSet 2 (sCon (.int 0)))
  (sSeq (sFor (sIter (sVar 0)) (tNm 3)
  (sIte (sTst (sBin (cmp2 dEq) (sVar 3) (sCon (.str "out"))))
  (sSet 2 (sCall (arg2 (dat2 dMax)) [(sVar 2), (sCon (.int 1))]))
  (sIte (sTst (sBin (gIsN true) (sVar 3) (sCon .none)))
  (sSeq (sIte (sTst (sBin (cmp2 dNotIn) (sVar 3) (sVar 1)))
  (sRet (sCon .none))
  sSkip)
  (sSet 2 (sCall (arg2 (dat2 dMax)) [(sVar 2), (sBin gAdd (sBin gIx (sVar 1) (sVar 3)) (sCon (.int 1)))])))
  sSkip)))
  (sRet (sVar 2))))
def b_heights (call : Str → GL) : SS :=
  (sSeq (sSet 1 sDctN)
  (sSeq (sSet 2 (sCon (.bool true)))
  (sSeq (sWhile (sTru (sVar 2))
  (sSeq (sSet 2 (sCon (.bool false)))
  (sFor (sEnum (sVar 0)) (tTp [3, 4])
  (sIte (sTst (sBin (cmp2 dNotIn) (sVar 3) (sVar 1)))
  (sSeq (sSet 5 (sCall (call "height_above") [(sVar 4), (sVar 1)]))
  (sIte (sTst (sBin (gIsN true) (sVar 5) (sCon .none)))
  (sSeq (sPut (sVar 1) (sVar 3) (sVar 5))
  (sSet 2 (sCon (.bool true))))
  sSkip))
  sSkip))))
  (sSeq (sIte (sTst (sBin (cmp2 dLt) (sCall (arg1 gLen) [(sVar 1)]) (sCall (arg1 gLen) [(sVar 0)])))
  (sRet (sCon .none))
  sSkip)
  (sRet (sCall (arg1 gTuple) [(sComp [3] (sRng1 (sCall (arg1 gLen) [(sVar 0)])) (tNm 3) sYes (sBin gIx (sVar 1) (sVar 3)))]))))))
def b_takes_ranks (call : Str → GL) : SS :=
  (sSeq (sIte (sTst (sBin (cmp2 dNe) (sCall (arg1 gLen) [(sVar 1)]) (sCall (arg1 gLen) [(sVar 0)])))
  (sRet (sCon (.bool false)))
  sSkip)
  (sSeq (sFor (sEnum (sVar 0)) (tTp [2, 3])
  (sFor (sIter (sVar 3)) (tNm 4)
  (sIte (sTst (sBin (cmp2 dEq) (sVar 4) (sCon (.str "out"))))
  (sIte (sTst (sBin (cmp2 dLt) (sBin gIx (sVar 1) (sVar 2)) (sCon (.int 1))))
  (sRet (sCon (.bool false)))
  sSkip)
  (sIte (sAnd (sTst (sBin (gIsN true) (sVar 4) (sCon .none))) (sTst (sBin (cmp2 dGe) (sBin gIx (sVar 1) (sVar 4)) (sBin gIx (sVar 1) (sVar 2)))))
  (sRet (sCon (.bool false)))
  sSkip))))
  (sRet (sCon (.bool true)))))
def b_end_marks (call : Str → GL) : SS :=
  (sSeq (sSet 1 (sCall gNew []))
  (sSeq (sFor (sRng1 (sCall (arg1 gLen) [(sVar 0)])) (tNm 2)
  (sSeq (sSet 3 (sCall (call "ends_from") [(sVar 0), (sVar 2)]))
  (sSeq (sIte (sTst (sBin (cmp2 dGt) (sCall (arg1 gLen) [(sVar 3)]) (sCon (.int 1))))
  (sRet (sCon .none))
  sSkip)
  (sIte (sTru (sVar 3))
  (sDrop (sMetO gAppend (sVar 1) [(sBin gIx (sBin gIx (sVar 3) (sCon (.int 0))) (sCon (.int 1)))]))
  (sDrop (sMetO gAppend (sVar 1) [(sCon (.str "open"))]))))))
  (sRet (sCall (arg1 gTuple) [(sVar 1)]))))
def b_takes_open (call : Str → GL) : SS :=
  (sSeq (sFor (sIter (sVar 0)) (tNm 2)
  (sIte (sAnd (sTst (sBin (gIsN true) (sVar 2) (sCon .none))) (sOr (sTst (sBin (cmp2 dEq) (sVar 2) (sCon (.str "out")))) (sTst (sBin (cmp2 dNe) (sBin gIx (sVar 1) (sVar 2)) (sCon (.str "open"))))))
  (sRet (sCon (.bool false)))
  sSkip))
  (sRet (sNotV (sCall (call "is_at_rest") [(sVar 0)]))))
def b_takes_end (call : Str → GL) : SS :=
  (sSeq (sSet 3 (sBin gIx (sVar 2) (sVar 1)))
  (sSeq (sIte (sTru (sCall (call "is_at_rest") [(sVar 0)]))
  (sRet (sBin (cmp2 dEq) (sVar 3) (sVar 1)))
  sSkip)
  (sSeq (sFor (sIter (sVar 0)) (tNm 4)
  (sIte (sTst (sBin (cmp2 dEq) (sVar 4) (sCon (.str "out"))))
  (sIte (sTst (sBin (cmp2 dNe) (sVar 3) (sCon (.str "out"))))
  (sRet (sCon (.bool false)))
  sSkip)
  (sIte (sAnd (sTst (sBin (gIsN true) (sVar 4) (sCon .none))) (sAnd (sTst (sBin (cmp2 dNe) (sBin gIx (sVar 2) (sVar 4)) (sCon (.str "open")))) (sTst (sBin (cmp2 dNe) (sBin gIx (sVar 2) (sVar 4)) (sVar 3)))))
  (sRet (sCon (.bool false)))
  sSkip)))
  (sRet (sCon (.bool true))))))
def b_takes_marks (call : Str → GL) : SS :=
  (sSeq (sIte (sTst (sBin (cmp2 dNe) (sCall (arg1 gLen) [(sVar 1)]) (sCall (arg1 gLen) [(sVar 0)])))
  (sRet (sCon (.bool false)))
  sSkip)
  (sSeq (sFor (sEnum (sVar 0)) (tTp [2, 3])
  (sIte (sTst (sBin (cmp2 dEq) (sBin gIx (sVar 1) (sVar 2)) (sCon (.str "open"))))
  (sIte (sNot (sTru (sCall (call "takes_open") [(sVar 3), (sVar 1)])))
  (sRet (sCon (.bool false)))
  sSkip)
  (sIte (sNot (sTru (sCall (call "takes_end") [(sVar 3), (sVar 2), (sVar 1)])))
  (sRet (sCon (.bool false)))
  sSkip)))
  (sRet (sCon (.bool true)))))
def b_law_tape (call : Str → GL) : SS :=
  (sSeq (sSet 1 (sCon (.int 7)))
  (sSeq (sFor (sIter (sVar 0)) (tNm 2)
  (sSet 1 (sBin (dat2 dMod) (sCall (arg1 (dat1 dInt)) [(sBin gAdd (sBin (dat2 dMul) (sVar 1) (sCon (.int 31))) (sCall (arg1 (dat1 dAbs)) [(sCall (arg1 (dat1 dInt)) [(sVar 2)])]))]) (sCon (.int 2147483647)))))
  (sRet (sCall gNew [(sCall (arg1 gList) [(sVar 0)]), (sCon (.int 0)), (sCon (.int 0)), (sVar 1)]))))
def b_law_draw (call : Str → GL) : SS :=
  (sSeq (sIte (sTst (sBin (cmp2 dEq) (sBin gIx (sVar 0) (sCon (.int 2))) (sCon (.int 0))))
  (sSeq (sSet 2 (sBin gIx (sVar 0) (sCon (.int 1))))
  (sSeq (sSet 3 (sCon (.int 0)))
  (sSeq (sIte (sTst (sBin (cmp2 dLt) (sVar 2) (sCall (arg1 gLen) [(sBin gIx (sVar 0) (sCon (.int 0)))])))
  (sSet 3 (sCall (arg1 (dat1 dAbs)) [(sCall (arg1 (dat1 dInt)) [(sBin gIx (sBin gIx (sVar 0) (sCon (.int 0))) (sVar 2))])]))
  (sSeq (sPut (sVar 0) (sCon (.int 3)) (sBin (dat2 dMod) (sCall (arg1 (dat1 dInt)) [(sBin gAdd (sBin gAdd (sBin (dat2 dMul) (sBin gIx (sVar 0) (sCon (.int 3))) (sCon (.int 48271))) (sVar 2)) (sCon (.int 1)))]) (sCon (.int 2147483647))))
  (sSet 3 (sBin gIx (sVar 0) (sCon (.int 3))))))
  (sSeq (sPut (sVar 0) (sCon (.int 1)) (sBin gAdd (sVar 2) (sCon (.int 1))))
  (sSeq (sIte (sTst (sBin (cmp2 dLt) (sVar 3) (sBin (dat2 dPow) (sCon (.int 10)) (sCon (.int 18)))))
  (sSeq (sSet 3 (sBin (dat2 dMod) (sCall (arg1 (dat1 dInt)) [(sBin gAdd (sBin gAdd (sBin (dat2 dMul) (sVar 3) (sCon (.int 48271))) (sBin (dat2 dMul) (sVar 2) (sCon (.int 69621)))) (sCon (.int 5)))]) (sCon (.int 2147483647))))
  (sSeq (sSet 3 (sBin (dat2 dMod) (sCall (arg1 (dat1 dInt)) [(sBin (dat2 dMul) (sVar 3) (sCon (.int 69621)))]) (sCon (.int 2147483629))))
  (sRet (sBin (dat2 dMod) (sCall (arg1 (dat1 dInt)) [(sVar 3)]) (sCall (arg2 (dat2 dMax)) [(sVar 1), (sCon (.int 1))])))))
  sSkip)
  (sPut (sVar 0) (sCon (.int 2)) (sVar 3)))))))
  sSkip)
  (sSeq (sSet 3 (sBin gIx (sVar 0) (sCon (.int 2))))
  (sSeq (sPut (sVar 0) (sCon (.int 2)) (sBin (dat2 dFdiv) (sVar 3) (sCall (arg2 (dat2 dMax)) [(sVar 1), (sCon (.int 2))])))
  (sRet (sBin (dat2 dMod) (sCall (arg1 (dat1 dInt)) [(sVar 3)]) (sCall (arg2 (dat2 dMax)) [(sVar 1), (sCon (.int 1))]))))))
def b_law_table (call : Str → GL) : SS :=
  (sSeq (sSet 1 (sBin gAdd (sCon (.int 1)) (sCall (call "_law_draw") [(sVar 0), (sCon (.int 7))])))
  (sSeq (sIte (sTst (sBin (cmp2 dEq) (sCall (call "_law_draw") [(sVar 0), (sCon (.int 16))]) (sCon (.int 0))))
  (sSet 1 (sBin (dat2 dSub) (sCon (.int 60)) (sCall (call "_law_draw") [(sVar 0), (sCon (.int 40))])))
  sSkip)
  (sSeq (sSet 2 (sBin gAdd (sCon (.int 1)) (sCall (call "_law_draw") [(sVar 0), (sCon (.int 4))])))
  (sSeq (sSet 3 (sCall (call "_law_draw") [(sVar 0), (sCon (.int 2))]))
  (sSeq (sSet 4 (sCall (call "_law_draw") [(sVar 0), (sCon (.int 4))]))
  (sSeq (sSet 5 (sCall gTup []))
  (sSeq (sFor (sRng1 (sVar 1)) (tNm 6)
  (sSeq (sSet 7 (sCall gTup []))
  (sSeq (sFor (sRng1 (sVar 2)) (tNm 8)
  (sSeq (sSet 9 (sCall (call "_law_draw") [(sVar 0), (sCon (.int 9))]))
  (sSeq (sSet 10 (sCall (call "_law_draw") [(sVar 0), (sVar 1)]))
  (sSeq (sIte (sTst (sBin (cmp2 dEq) (sVar 3) (sCon (.int 1))))
  (sSeq (sSet 10 (sCon .none))
  (sIte (sTst (sBin (cmp2 dLt) (sBin gAdd (sVar 6) (sCon (.int 1))) (sVar 1)))
  (sSet 10 (sBin gAdd (sBin gAdd (sVar 6) (sCon (.int 1))) (sCall (call "_law_draw") [(sVar 0), (sBin (dat2 dSub) (sBin (dat2 dSub) (sVar 1) (sVar 6)) (sCon (.int 1)))])))
  sSkip))
  sSkip)
  (sSeq (sIte (sTst (sBin (cmp2 dLt) (sVar 9) (sVar 4)))
  (sSet 10 (sCon .none))
  sSkip)
  (sSeq (sIte (sTst (sBin (cmp2 dEq) (sVar 9) (sCon (.int 8))))
  (sSet 10 (sCon (.str "out")))
  sSkip)
  (sSet 7 (sBin gAdd (sVar 7) (sCall gTup [(sVar 10)])))))))))
  (sSet 5 (sBin gAdd (sVar 5) (sCall gTup [(sVar 7)]))))))
  (sRet (sVar 5)))))))))
def b_law_led_to (call : Str → GL) : SS :=
  (sSeq (sFor (sIter (sVar 2)) (tNm 3)
  (sSeq (sIte (sOr (sTst (sBin (cmp2 dEq) (sVar 1) (sCon (.str "out")))) (sOr (sNot (sTru (sUn (gIsi "int") (sVar 3)))) (sOr (sTru (sUn (gIsi "bool") (sVar 3))) (sNot (sTst (sChain (cmp2 dLe) (cmp2 dLt) (sCon (.int 0)) (sVar 3) (sCall (arg1 gLen) [(sBin gIx (sVar 0) (sCon (.int 0)))])))))))
  (sRet (sCon .none))
  sSkip)
  (sSeq (sSet 1 (sBin gIx (sBin gIx (sVar 0) (sVar 1)) (sVar 3)))
  (sIte (sTst (sBin (gIsN false) (sVar 1) (sCon .none)))
  (sRet (sCon .none))
  sSkip))))
  (sRet (sVar 1)))
def b_law_is_end (call : Str → GL) : SS :=
  (sRet (sOrV (sBin (cmp2 dEq) (sVar 1) (sCon (.str "out"))) (sAndV (sBin (gIsN true) (sVar 1) (sCon .none)) (sBin (cmp2 dEq) (sCall (arg1 gLen) [(sComp [2] (sIter (sBin gIx (sVar 0) (sVar 1))) (tNm 2) (sTst (sBin (gIsN true) (sVar 2) (sCon .none))) (sVar 2))]) (sCon (.int 0))))))
def b_law_drawn_way (call : Str → GL) : SS :=
  (sSeq (sSet 2 (sCall (call "_law_draw") [(sVar 0), (sCall (arg1 gLen) [(sVar 1)])]))
  (sSeq (sSet 3 (sVar 2))
  (sSeq (sSet 4 (sCon (.int 0)))
  (sSeq (sFor (sRng1 (sCon (.int 12))) (tNm 5)
  (sSeq (sSet 6 (sCall gLst []))
  (sSeq (sIte (sTst (sBin (cmp2 dNe) (sVar 2) (sCon (.str "out"))))
  (sSet 6 (sComp [7] (sIter (sBin gIx (sVar 1) (sVar 2))) (tNm 7) (sTst (sBin (gIsN true) (sVar 7) (sCon .none))) (sVar 7)))
  sSkip)
  (sIte (sTst (sBin (cmp2 dGt) (sCall (arg1 gLen) [(sVar 6)]) (sCon (.int 0))))
  (sSeq (sSet 2 (sBin gIx (sVar 6) (sCall (call "_law_draw") [(sVar 0), (sCall (arg1 gLen) [(sVar 6)])])))
  (sSet 4 (sBin gAdd (sVar 4) (sCon (.int 1)))))
  sSkip))))
  (sRet (sCall gTup [(sVar 3), (sVar 4), (sVar 2)]))))))
def b_law_true_fight (call : Str → GL) : SS :=
  (sSeq (sIte (sOr (sNot (sTru (sUn (gIsi "tuple") (sVar 1)))) (sOr (sTst (sBin (cmp2 dNe) (sCall (arg1 gLen) [(sVar 1)]) (sCon (.int 2)))) (sOr (sNot (sTru (sUn (gIsi "tuple") (sBin gIx (sVar 1) (sCon (.int 1)))))) (sTst (sBin (cmp2 dEq) (sCall (arg1 gLen) [(sBin gIx (sVar 1) (sCon (.int 1)))]) (sCon (.int 0)))))))
  (sRet (sCon (.bool false)))
  sSkip)
  (sRet (sAndV (sUn (gIsi "int") (sBin gIx (sVar 1) (sCon (.int 0)))) (sAndV (sChain (cmp2 dLe) (cmp2 dLt) (sCon (.int 0)) (sBin gIx (sVar 1) (sCon (.int 0))) (sCall (arg1 gLen) [(sVar 0)])) (sBin (cmp2 dEq) (sCall (call "_law_led_to") [(sVar 0), (sBin gIx (sVar 1) (sCon (.int 0))), (sBin gIx (sVar 1) (sCon (.int 1)))]) (sBin gIx (sVar 1) (sCon (.int 0))))))))
def b_law_true_conflict (call : Str → GL) : SS :=
  (sSeq (sIte (sOr (sNot (sTru (sUn (gIsi "tuple") (sVar 1)))) (sOr (sTst (sBin (cmp2 dNe) (sCall (arg1 gLen) [(sVar 1)]) (sCon (.int 3)))) (sOr (sNot (sTru (sUn (gIsi "int") (sBin gIx (sVar 1) (sCon (.int 0)))))) (sNot (sTst (sChain (cmp2 dLe) (cmp2 dLt) (sCon (.int 0)) (sBin gIx (sVar 1) (sCon (.int 0))) (sCall (arg1 gLen) [(sVar 0)])))))))
  (sRet (sCon (.bool false)))
  sSkip)
  (sSeq (sSet 2 (sCall gNew []))
  (sSeq (sFor (sIter (sSl (sVar 1) (some (sCon (.int 1))) none)) (tNm 3)
  (sSeq (sIte (sOr (sNot (sTru (sUn (gIsi "tuple") (sVar 3)))) (sOr (sTst (sBin (cmp2 dNe) (sCall (arg1 gLen) [(sVar 3)]) (sCon (.int 2)))) (sNot (sTru (sUn (gIsi "tuple") (sBin gIx (sVar 3) (sCon (.int 0))))))))
  (sRet (sCon (.bool false)))
  sSkip)
  (sSeq (sDrop (sMetO gAppend (sVar 2) [(sCall (call "_law_led_to") [(sVar 0), (sBin gIx (sVar 1) (sCon (.int 0))), (sBin gIx (sVar 3) (sCon (.int 0)))])]))
  (sIte (sOr (sTst (sBin (cmp2 dNe) (sBin gIx (sVar 2) (sBin (dat2 dSub) (sCall (arg1 gLen) [(sVar 2)]) (sCon (.int 1)))) (sBin gIx (sVar 3) (sCon (.int 1))))) (sNot (sTru (sCall (call "_law_is_end") [(sVar 0), (sBin gIx (sVar 3) (sCon (.int 1)))]))))
  (sRet (sCon (.bool false)))
  sSkip))))
  (sRet (sBin (cmp2 dNe) (sBin gIx (sVar 2) (sCon (.int 0))) (sBin gIx (sVar 2) (sCon (.int 1))))))))
def b_law (call : Str → GL) : SS :=
  (sSeq (sSet 1 (sCall (call "_law_tape") [(sVar 0)]))
  (sSeq (sSet 2 (sCall (call "_law_table") [(sVar 1)]))
  (sSeq (sSet 3 (sCall (call "table_fight") [(sVar 2)]))
  (sSeq (sSet 4 (sCall (call "table_conflict") [(sVar 2)]))
  (sSeq (sSet 5 (sCall (call "heights") [(sVar 2)]))
  (sSeq (sSet 6 (sCall (call "end_marks") [(sVar 2)]))
  (sSeq (sIte (sOr (sTst (sBin (cmp2 dNe) (sBin (gIsN false) (sVar 5) (sCon .none)) (sBin (gIsN true) (sVar 3) (sCon .none)))) (sTst (sBin (cmp2 dNe) (sBin (gIsN false) (sVar 6) (sCon .none)) (sBin (gIsN true) (sVar 4) (sCon .none)))))
  (sRet (sCon (.bool false)))
  sSkip)
  (sSeq (sIte (sAnd (sTst (sBin (gIsN true) (sVar 3) (sCon .none))) (sNot (sTru (sCall (call "_law_true_fight") [(sVar 2), (sVar 3)]))))
  (sRet (sCon (.bool false)))
  sSkip)
  (sSeq (sIte (sAnd (sTst (sBin (gIsN true) (sVar 4) (sCon .none))) (sNot (sTru (sCall (call "_law_true_conflict") [(sVar 2), (sVar 4)]))))
  (sRet (sCon (.bool false)))
  sSkip)
  (sSeq (sSet 7 (sComp [8] (sIter (sVar 2)) (tNm 8) sYes (sCall (call "_law_draw") [(sVar 1), (sBin (dat2 dMul) (sCon (.int 2)) (sCall (arg1 gLen) [(sVar 2)]))])))
  (sSeq (sSet 9 (sComp [8] (sIter (sVar 2)) (tNm 8) sYes (sBin gIx (sCall gLst [(sCon (.str "open")), (sCon (.str "out")), (sCall (call "_law_draw") [(sVar 1), (sCall (arg1 gLen) [(sVar 2)])])]) (sCall (call "_law_draw") [(sVar 1), (sCon (.int 3))]))))
  (sSeq (sIte (sTst (sBin (gIsN true) (sVar 5) (sCon .none)))
  (sSeq (sIte (sTst (sBin (gIsN true) (sCall (call "takes_ranks") [(sVar 2), (sVar 5)]) (sCon (.bool true))))
  (sRet (sCon (.bool false)))
  sSkip)
  (sSet 7 (sComp [10] (sIter (sVar 5)) (tNm 10) sYes (sBin gIx (sCall gLst [(sVar 10), (sVar 10), (sVar 10), (sBin gAdd (sVar 10) (sCon (.int 1))), (sBin gAdd (sVar 10) (sCon (.int 7)))]) (sCall (call "_law_draw") [(sVar 1), (sCon (.int 5))])))))
  sSkip)
  (sSeq (sIte (sTst (sBin (gIsN true) (sVar 6) (sCon .none)))
  (sSeq (sIte (sTst (sBin (gIsN true) (sCall (call "takes_marks") [(sVar 2), (sVar 6)]) (sCon (.bool true))))
  (sRet (sCon (.bool false)))
  sSkip)
  (sSet 9 (sComp [11] (sIter (sVar 6)) (tNm 11) sYes (sBin gIx (sCall gLst [(sVar 11), (sVar 11), (sVar 11), (sVar 11), (sVar 11), (sCon (.str "open"))]) (sCall (call "_law_draw") [(sVar 1), (sCon (.int 6))])))))
  sSkip)
  (sSeq (sSet 12 (sCall (call "_law_drawn_way") [(sVar 1), (sVar 2)]))
  (sSeq (sIte (sTru (sCall (call "takes_ranks") [(sVar 2), (sCall (arg1 gTuple) [(sVar 7)])]))
  (sSeq (sIte (sOr (sTst (sBin (gIsN true) (sVar 3) (sCon .none))) (sTst (sBin (cmp2 dGt) (sBin gIx (sVar 12) (sCon (.int 1))) (sBin gIx (sVar 7) (sBin gIx (sVar 12) (sCon (.int 0)))))))
  (sRet (sCon (.bool false)))
  sSkip)
  (sIte (sTst (sBin (cmp2 dGt) (sCall (arg1 gLen) [(sComp [13] (sRng1 (sCall (arg1 gLen) [(sVar 2)])) (tNm 13) (sTst (sBin (cmp2 dGt) (sBin gIx (sVar 5) (sVar 13)) (sBin gIx (sVar 7) (sVar 13)))) (sVar 13))]) (sCon (.int 0))))
  (sRet (sCon (.bool false)))
  sSkip))
  sSkip)
  (sSeq (sIte (sTru (sCall (call "takes_marks") [(sVar 2), (sCall (arg1 gTuple) [(sVar 9)])]))
  (sIte (sOr (sTst (sBin (gIsN true) (sVar 4) (sCon .none))) (sAnd (sTru (sCall (call "_law_is_end") [(sVar 2), (sBin gIx (sVar 12) (sCon (.int 2)))])) (sTst (sBin (cmp2 dNe) (sBin gIx (sVar 9) (sBin gIx (sVar 12) (sCon (.int 0)))) (sBin gIx (sVar 12) (sCon (.int 2)))))))
  (sRet (sCon (.bool false)))
  sSkip)
  sSkip)
  (sRet (sCon (.bool true)))))))))))))))))))
def e_is_at_rest : Ent := ⟨"is_at_rest", topS 1, ["row"], ["row", "move"], false, [], [], [], b_is_at_rest⟩
def e_first_schedules : Ent := ⟨"first_schedules", topS 2, ["table", "state"], ["table", "state", "found", "known", "at", "schedule", "current", "place", "move"], false, [5012, 6012], [], [], b_first_schedules⟩
def e_ends_from : Ent := ⟨"ends_from", topS 3, ["table", "state"], ["table", "state", "ends", "schedule", "current"], false, [19011], [], [], b_ends_from⟩
def e_table_conflict : Ent := ⟨"table_conflict", topS 4, ["table"], ["table", "state", "ends"], false, [], [], [], b_table_conflict⟩
def e_first_return : Ent := ⟨"first_return", topS 5, ["table", "state"], ["table", "state", "schedule", "current"], false, [], [], [], b_first_return⟩
def e_table_fight : Ent := ⟨"table_fight", topS 6, ["table"], ["table", "best", "state", "schedule"], false, [], [], [], b_table_fight⟩
def e_height_above : Ent := ⟨"height_above", topS 7, ["row", "known"], ["row", "known", "height", "move"], false, [], [], [], b_height_above⟩
def e_heights : Ent := ⟨"heights", topS 8, ["table"], ["table", "known", "growing", "state", "row", "height"], false, [53012], [], [], b_heights⟩
def e_takes_ranks : Ent := ⟨"takes_ranks", topS 9, ["table", "ranks"], ["table", "ranks", "state", "row", "move"], false, [], [], [], b_takes_ranks⟩
def e_end_marks : Ent := ⟨"end_marks", topS 10, ["table"], ["table", "marks", "state", "ends"], false, [78012], [], [], b_end_marks⟩
def e_takes_open : Ent := ⟨"takes_open", topS 11, ["row", "marks"], ["row", "marks", "move"], false, [], [], [], b_takes_open⟩
def e_takes_end : Ent := ⟨"takes_end", topS 12, ["row", "state", "marks"], ["row", "state", "marks", "mark", "move"], false, [], [], [], b_takes_end⟩
def e_takes_marks : Ent := ⟨"takes_marks", topS 13, ["table", "marks"], ["table", "marks", "state", "row"], false, [], [], [], b_takes_marks⟩
def e_law_tape : Ent := ⟨"_law_tape", topS 15, ["script"], ["script", "mixed", "cell"], true, [119011], [], [], b_law_tape⟩
def e_law_draw : Ent := ⟨"_law_draw", topS 16, ["tape", "many"], ["tape", "many", "place", "number"], false, [], [], [], b_law_draw⟩
def e_law_table : Ent := ⟨"_law_table", topS 17, ["tape"], ["tape", "many", "wide", "forward", "lazy", "table", "k", "row", "u", "choice", "move"], false, [], [], [], b_law_table⟩
def e_law_led_to : Ent := ⟨"_law_led_to", topS 18, ["table", "state", "schedule"], ["table", "state", "schedule", "u"], false, [], [], [], b_law_led_to⟩
def e_law_is_end : Ent := ⟨"_law_is_end", topS 19, ["table", "state"], ["table", "state", "move"], false, [], [], [], b_law_is_end⟩
def e_law_drawn_way : Ent := ⟨"_law_drawn_way", topS 20, ["tape", "table"], ["tape", "table", "state", "start", "many", "k", "moves", "move"], false, [], [], [], b_law_drawn_way⟩
def e_law_true_fight : Ent := ⟨"_law_true_fight", topS 21, ["table", "told"], ["table", "told"], false, [], [], [], b_law_true_fight⟩
def e_law_true_conflict : Ent := ⟨"_law_true_conflict", topS 22, ["table", "told"], ["table", "told", "ends", "way"], false, [191011], [], [], b_law_true_conflict⟩
def e_law : Ent := ⟨"law", topS 23, ["script"], ["script", "tape", "table", "fight", "conflict", "least", "ends", "ranks", "row", "marks", "rank", "mark", "way", "k"], false, [], [], [], b_law⟩
def T : List Ent := [e_is_at_rest, e_first_schedules, e_ends_from, e_table_conflict, e_first_return, e_table_fight, e_height_above, e_heights, e_takes_ranks, e_end_marks, e_takes_open, e_takes_end, e_takes_marks, e_law_tape, e_law_draw, e_law_table, e_law_led_to, e_law_is_end, e_law_drawn_way, e_law_true_fight, e_law_true_conflict, e_law]
theorem u_is_at_rest {k : Nat} {x0 : Vl} {S : Sto} : run T (k + 1) "is_at_rest" [x0] S = fnEnd false S.length (b_is_at_rest (run T k) [some x0, none] S) := by kernel_rfl
theorem u_first_schedules {k : Nat} {x0 x1 : Vl} {S : Sto} : run T (k + 1) "first_schedules" [x0, x1] S = fnEnd false S.length (b_first_schedules (run T k) [some x0, some x1, none, none, none, none, none, none, none] S) := by kernel_rfl
theorem u_ends_from {k : Nat} {x0 x1 : Vl} {S : Sto} : run T (k + 1) "ends_from" [x0, x1] S = fnEnd false S.length (b_ends_from (run T k) [some x0, some x1, none, none, none] S) := by kernel_rfl
theorem u_table_conflict {k : Nat} {x0 : Vl} {S : Sto} : run T (k + 1) "table_conflict" [x0] S = fnEnd false S.length (b_table_conflict (run T k) [some x0, none, none] S) := by kernel_rfl
theorem u_first_return {k : Nat} {x0 x1 : Vl} {S : Sto} : run T (k + 1) "first_return" [x0, x1] S = fnEnd false S.length (b_first_return (run T k) [some x0, some x1, none, none] S) := by kernel_rfl
theorem u_table_fight {k : Nat} {x0 : Vl} {S : Sto} : run T (k + 1) "table_fight" [x0] S = fnEnd false S.length (b_table_fight (run T k) [some x0, none, none, none] S) := by kernel_rfl
theorem u_height_above {k : Nat} {x0 x1 : Vl} {S : Sto} : run T (k + 1) "height_above" [x0, x1] S = fnEnd false S.length (b_height_above (run T k) [some x0, some x1, none, none] S) := by kernel_rfl
theorem u_heights {k : Nat} {x0 : Vl} {S : Sto} : run T (k + 1) "heights" [x0] S = fnEnd false S.length (b_heights (run T k) [some x0, none, none, none, none, none] S) := by kernel_rfl
theorem u_takes_ranks {k : Nat} {x0 x1 : Vl} {S : Sto} : run T (k + 1) "takes_ranks" [x0, x1] S = fnEnd false S.length (b_takes_ranks (run T k) [some x0, some x1, none, none, none] S) := by kernel_rfl
theorem u_end_marks {k : Nat} {x0 : Vl} {S : Sto} : run T (k + 1) "end_marks" [x0] S = fnEnd false S.length (b_end_marks (run T k) [some x0, none, none, none] S) := by kernel_rfl
theorem u_takes_open {k : Nat} {x0 x1 : Vl} {S : Sto} : run T (k + 1) "takes_open" [x0, x1] S = fnEnd false S.length (b_takes_open (run T k) [some x0, some x1, none] S) := by kernel_rfl
theorem u_takes_end {k : Nat} {x0 x1 x2 : Vl} {S : Sto} : run T (k + 1) "takes_end" [x0, x1, x2] S = fnEnd false S.length (b_takes_end (run T k) [some x0, some x1, some x2, none, none] S) := by kernel_rfl
theorem u_takes_marks {k : Nat} {x0 x1 : Vl} {S : Sto} : run T (k + 1) "takes_marks" [x0, x1] S = fnEnd false S.length (b_takes_marks (run T k) [some x0, some x1, none, none] S) := by kernel_rfl
theorem u_law_tape {k : Nat} {x0 : Vl} {S : Sto} : run T (k + 1) "_law_tape" [x0] S = fnEnd true S.length (b_law_tape (run T k) [some x0, none, none] S) := by kernel_rfl
theorem u_law_draw {k : Nat} {x0 x1 : Vl} {S : Sto} : run T (k + 1) "_law_draw" [x0, x1] S = fnEnd false S.length (b_law_draw (run T k) [some x0, some x1, none, none] S) := by kernel_rfl
theorem u_law_table {k : Nat} {x0 : Vl} {S : Sto} : run T (k + 1) "_law_table" [x0] S = fnEnd false S.length (b_law_table (run T k) [some x0, none, none, none, none, none, none, none, none, none, none] S) := by kernel_rfl
theorem u_law_led_to {k : Nat} {x0 x1 x2 : Vl} {S : Sto} : run T (k + 1) "_law_led_to" [x0, x1, x2] S = fnEnd false S.length (b_law_led_to (run T k) [some x0, some x1, some x2, none] S) := by kernel_rfl
theorem u_law_is_end {k : Nat} {x0 x1 : Vl} {S : Sto} : run T (k + 1) "_law_is_end" [x0, x1] S = fnEnd false S.length (b_law_is_end (run T k) [some x0, some x1, none] S) := by kernel_rfl
theorem u_law_drawn_way {k : Nat} {x0 x1 : Vl} {S : Sto} : run T (k + 1) "_law_drawn_way" [x0, x1] S = fnEnd false S.length (b_law_drawn_way (run T k) [some x0, some x1, none, none, none, none, none, none] S) := by kernel_rfl
theorem u_law_true_fight {k : Nat} {x0 x1 : Vl} {S : Sto} : run T (k + 1) "_law_true_fight" [x0, x1] S = fnEnd false S.length (b_law_true_fight (run T k) [some x0, some x1] S) := by kernel_rfl
theorem u_law_true_conflict {k : Nat} {x0 x1 : Vl} {S : Sto} : run T (k + 1) "_law_true_conflict" [x0, x1] S = fnEnd false S.length (b_law_true_conflict (run T k) [some x0, some x1, none, none] S) := by kernel_rfl
theorem u_law {k : Nat} {x0 : Vl} {S : Sto} : run T (k + 1) "law" [x0] S = fnEnd false S.length (b_law (run T k) [some x0, none, none, none, none, none, none, none, none, none, none, none, none, none] S) := by kernel_rfl
end L2.Pv

set_option Elab.async false
set_option linter.all false
set_option maxRecDepth 100000
namespace L2.Pv
open PySem PySem.Spec PyProof.Rows L2
theorem draw_end {t : Nat} {n : Int} {S S' : Sto} (hk : Kp t S S') (x : Int) : ∃ d, Fl.rt (Vl.d (PyData.int (x % (if 1 > n then 1 else n)))) = Fl.rt (Vl.d d) ∧ (∃ r, Vl.d d = Vl.d (PyData.int r) ∧ 0 ≤ r ∧ r < max n 1) ∧ Kp t S S' := by
  have h : 0 < (if 1 > n then 1 else n) := by split <;> omega
  have h2 := Int.emod_lt_of_pos x h
  have h3 : (if 1 > n then 1 else n) = max n 1 := by split <;> omega
  exact ⟨_, rfl, ⟨_, rfl, Int.emod_nonneg _ (by omega), by omega⟩, hk⟩
theorem sat_draw {k t : Nat} {n : Int} {S : Sto} (h : Tp S t) (hn : n < 4611686018427387904) : Gen t S (run T (k + 1) "_law_draw" [.o t, .d (.int n)] S) fun v => ∃ r : Int, v = .d (.int r) ∧ 0 ≤ r ∧ r < max n 1 := by
  obtain ⟨ns, p, c, m, e, hp, hc⟩ := h.ex
  rw [u_law_draw]
  refine Gen.end ?_
  unfold b_law_draw
  have hp1 : 0 < (if 1 > n then 1 else n) := by split <;> omega
  have hp2 : 0 < (if 2 > n then 2 else n) := by split <;> omega
  have hp3 : (if 2 > n then 2 else n) < 18446744073709551616 := by split <;> omega
  have hl := lst_lt e
  simp (decide := true) only [EV, e]
  refine Sat_pickB (fun hb => ?_) fun hb => ?_
  · simp (decide := true) only [EV, e, List.length_map]
    refine Sat_pickB (fun hb2 => ?_) fun hb2 => ?_
    · obtain ⟨x, hx⟩ := atI_map hp (of_decide_eq_true hb2)
      simp (decide := true) only [EV, e, hx]
      refine Sat_pickB (fun hb3 => ?_) fun hb3 => ?_
      · simp (decide := true) only [EV, e, hp1]
        exact draw_end (Kp.set hl (by omega) hc) _
      · simp (decide := true) only [EV, e, lst_set e, set_set, hp1, hp2, hp3]
        exact draw_end (Kp.set hl (by omega) (Int.ediv_nonneg int_nn (by omega))) _
    · have hz : decide ((m * 48271 + p + 1) % 2147483647 < 1000000000000000000) = true := decide_eq_true (by omega)
      simp (decide := true) only [EV, e, lst_set e, set_set, hz, hp1]
      exact draw_end (Kp.set hl (by omega) hc) _
  · simp (decide := true) only [EV, e, lst_set e, set_set, hp1, hp2, hp3]
    exact draw_end (Kp.set hl (by omega) (Int.ediv_nonneg hc (by omega))) _

theorem tape_sat {k : Nat} {ns : List Int} : (run T (k + 1) "_law_tape" [.k (ns.map .int)] []).Sat fun v S => ∃ m : Int, v = .o 0 ∧ S = [.lst [.list (ns.map .int), .int 0, .int 0, .int m]] := by
  rw [u_law_tape, Sat_end]
  unfold b_law_tape
  simp (decide := true) only [EV]
  refine Sat_forC (all := ns) (g := PyData.int) (fun _ Γ S => S = [] ∧ ∃ (m : Int) (o : Option Vl), Γ = [some (.k (ns.map .int)), some (.d (.int m)), o]) ⟨rfl, _, _, rfl⟩ ?_ ?_
  · rintro d rest Γ S hd ⟨rfl, m, o, rfl⟩
    refine ⟨_, rfl, ?_⟩
    simp (decide := true) only [EV]
    exact ⟨rfl, _, _, rfl⟩
  · rintro Γ S ⟨rfl, m, o, rfl⟩
    simp (decide := true) only [EV]
    exact ⟨m, rfl, rfl⟩
theorem tape_eq {k : Nat} {ns : List Int} : ∃ m : Int, run T (k + 1) "_law_tape" [.k (ns.map .int)] [] = .ok (.o 0) [.lst [.list (ns.map .int), .int 0, .int 0, .int m]] := by
  have h := tape_sat (k := k) (ns := ns)
  revert h
  generalize run T (k + 1) "_law_tape" [.k (ns.map .int)] [] = r
  intro h
  cases r with
  | bad => exact h.elim
  | ok v S =>
    obtain ⟨m, rfl, rfl⟩ := h
    exact ⟨m, rfl⟩
theorem tape_tp {ns : List Int} {m : Int} : Tp [.lst [.list (ns.map .int), .int 0, .int 0, .int m]] 0 := ⟨ns, 0, 0, m, rfl, by decide, by decide⟩
theorem tape_ex {k : Nat} (ns : List Int) : ∃ S0 : Sto, run T (k + 1) "_law_tape" [.k (ns.map .int)] [] = .ok (.o 0) S0 ∧ Tp S0 0 ∧ S0.length = 1 := by
  obtain ⟨m, e⟩ := tape_eq (k := k) (ns := ns)
  exact ⟨_, e, tape_tp, rfl⟩

/-- a move of a table -/
inductive Mv where
  | no
  | out
  | to (n : Nat)
  deriving DecidableEq
def Mv.d : Mv → PyData
  | .no => .none
  | .out => .str "out"
  | .to n => .int n
def rowD (r : List Mv) : PyData := .tuple (r.map Mv.d)
def tabD (t : List (List Mv)) : PyData := .tuple (t.map rowD)
/-- all rows are as wide, all moves lead to states -/
structure TabW (t : List (List Mv)) (w : Nat) : Prop where
  w : ∀ r ∈ t, r.length = w
  to : ∀ r ∈ t, ∀ n, Mv.to n ∈ r → n < t.length
def mvAt (t : List (List Mv)) (s p : Nat) : Mv := (t.getD s []).getD p .no
theorem mv_out (m : Mv) : dEq m.d (.str "out") = some (.bool (match m with | .out => true | _ => false)) := by cases m <;> rfl
theorem mv_isn {m : Mv} {S : Sto} : gIsN true (.d m.d) (.d .none) S = .ok (.d (.bool (match m with | .no => false | _ => true))) S := by cases m <;> rfl
theorem mv_ix {t : List (List Mv)} {w s p : Nat} (h : TabW t w) (hs : s < t.length) (hp : p < w) : atI (t.map rowD) (s : Int) = some (rowD t[s]) ∧ atI (t[s].map Mv.d) (p : Int) = some (mvAt t s p).d := by
  have hw : t[s].length = w := h.w _ (List.getElem_mem hs)
  refine ⟨by rw [atI_nat (by rw [List.length_map]; exact hs), List.getElem_map], ?_⟩
  rw [atI_nat (by rw [List.length_map, hw]; exact hp), List.getElem_map]
  unfold mvAt
  rw [List.getD_eq_getElem?_getD, List.getD_eq_getElem?_getD, List.getElem?_eq_getElem hs, Option.getD_some, List.getElem?_eq_getElem (by rw [hw]; exact hp), Option.getD_some]
theorem mv_to {t : List (List Mv)} {w s p n : Nat} (h : TabW t w) (hs : s < t.length) (hp : p < w) (e : mvAt t s p = .to n) : n < t.length := by
  have hw : t[s].length = w := h.w _ (List.getElem_mem hs)
  unfold mvAt at e
  rw [List.getD_eq_getElem?_getD, List.getD_eq_getElem?_getD, List.getElem?_eq_getElem hs, Option.getD_some, List.getElem?_eq_getElem (by rw [hw]; exact hp), Option.getD_some] at e
  exact h.to _ (List.getElem_mem hs) n (by rw [← e]; exact List.getElem_mem _)
/-! ### the table drawn -/
def MvOk (many : Nat) (m : Mv) : Prop := ∀ n, m = .to n → n < many
theorem row_cat {ms : List Mv} {m : Mv} (h : ms.length ≤ 1000) : dAdd (rowD ms) (.tuple [m.d]) = some (rowD (ms ++ [m])) := by
  unfold rowD
  rw [v_addT, decide_eq_true (show (ms.map Mv.d).length + [m.d].length ≤ SZ by rw [List.length_map]; show ms.length + 1 ≤ 16777216; omega), pick_t, List.map_append]
  rfl
theorem tab_cat {t : List (List Mv)} {r : List Mv} (h : t.length ≤ 1000) : dAdd (tabD t) (.tuple [rowD r]) = some (tabD (t ++ [r])) := by
  unfold tabD
  rw [v_addT, decide_eq_true (show (t.map rowD).length + [rowD r].length ≤ SZ by rw [List.length_map]; show t.length + 1 ≤ 16777216; omega), pick_t, List.map_append]
  rfl
theorem sat_table {k t : Nat} {S : Sto} (h : Tp S t) : Gen t S (run T (k + 2) "_law_table" [.o t] S) fun v => ∃ (tt : List (List Mv)) (w : Nat), v = .d (tabD tt) ∧ TabW tt w ∧ 0 < tt.length ∧ tt.length ≤ 60 ∧ 0 < w ∧ w ≤ 4 := by
  rw [u_law_table]
  unfold Gen
  rw [Sat_end]
  unfold b_law_table
  simp (decide := true) only [EV]
  refine Gen.then (Kp.refl h) (sat_draw h (by decide)) fun v S1 ⟨r, e, hr0, hr1⟩ hk => ?_
  subst e
  try simp (decide := true) only [EV]
  refine Gen.then hk (sat_draw hk.tp (by decide)) fun v S1 ⟨r2, e, hr2, hr3⟩ hk => ?_
  subst e
  try simp (decide := true) only [EV]
  refine R.Sat.bind (P := fun fl S' => Kp t S S' ∧ ∃ many : Nat, fl = .nx [some (.o t), some (.d (.int many)), none, none, none, none, none, none, none, none, none] ∧ 0 < many ∧ many ≤ 60) ?_ ?_
  · refine Sat_pick (fun _ => ?_) fun _ => ?_
    · refine Gen.then hk (sat_draw hk.tp (by decide)) fun v S2 ⟨r4, e, hr4, hr5⟩ hk => ?_
      subst e
      try simp (decide := true) only [EV]
      exact ⟨hk, (60 - r4).toNat, by rw [show (((60 - r4).toNat : Nat) : Int) = 60 - r4 by omega], by omega, by omega⟩
    · exact ⟨hk, (1 + r).toNat, by rw [show (((1 + r).toNat : Nat) : Int) = 1 + r by omega], by omega, by omega⟩
  rintro fl S2 ⟨hk, many, rfl, hm0, hm1⟩
  have hmr := rng_ok (n := (many : Int)) (by omega) (by omega)
  have hmf := rng_fuel (n := (many : Int)) (i := 0) (by omega)
  simp (decide := true) only [EV, hmr, hmf]
  refine Gen.then hk (sat_draw hk.tp (by decide)) fun v S1 ⟨r, e, hr0, hr1⟩ hk => ?_
  subst e
  try simp (decide := true) only [EV, hmr, hmf]
  refine Gen.then hk (sat_draw hk.tp (by decide)) fun v S1 ⟨fw, e, _, _⟩ hk => ?_
  subst e
  try simp (decide := true) only [EV, hmr, hmf]
  refine Gen.then hk (sat_draw hk.tp (by decide)) fun v S1 ⟨lz, e, _, _⟩ hk => ?_
  subst e
  obtain ⟨w, hw, hw0, hw1⟩ : ∃ w : Nat, 1 + r = (w : Int) ∧ 0 < w ∧ w ≤ 4 := ⟨(1 + r).toNat, by omega, by omega, by omega⟩
  rw [hw]
  have hwr := rng_ok (n := (w : Int)) (by omega) (by omega)
  have hwf := rng_fuel (n := (w : Int)) (i := 0) (by omega)
  try simp (decide := true) only [EV, hmr, hmf]
  rw [rng_map]
  refine Sat_forC (fun rest Γ S' => Kp t S S' ∧ ∃ (tt : List (List Mv)) (a b c d e : Option Vl), Γ = [some (.o t), some (.d (.int many)), some (.d (.int w)), some (.d (.int fw)), some (.d (.int lz)), some (.d (tabD tt)), a, b, c, d, e] ∧ tt.length + rest.length = many ∧ ∀ r ∈ tt, r.length = w ∧ ∀ m ∈ r, MvOk many m) ?_ ?_ ?_
  · exact ⟨hk, [], none, none, none, none, none, rfl, by simp, fun r hr => absurd hr (by simp)⟩
  · rintro j rest Γ S' hj ⟨hk, tt, a, b, c, d, e, rfl, hl, hok⟩
    have hj : j < many := by simpa using hj
    rw [List.length_cons] at hl
    refine ⟨_, rfl, ?_⟩
    simp (decide := true) only [EV, hwr, hwf]
    rw [rng_map]
    refine Sat_forC (fun rest Γ S' => Kp t S S' ∧ ∃ (ms : List Mv) (c d e : Option Vl), Γ = [some (.o t), some (.d (.int many)), some (.d (.int w)), some (.d (.int fw)), some (.d (.int lz)), some (.d (tabD tt)), some (.d (.int (0 + (j : Int)))), some (.d (rowD ms)), c, d, e] ∧ ms.length + rest.length = w ∧ ∀ m ∈ ms, MvOk many m) ?_ ?_ ?_
    · exact ⟨hk, [], c, d, e, rfl, by simp, fun r hr => absurd hr (by simp)⟩
    · rintro u rest Γ S' hu ⟨hk, ms, c, d, e, rfl, hl, hok⟩
      rw [List.length_cons] at hl
      refine ⟨_, rfl, ?_⟩
      simp (decide := true) only [EV]
      refine Gen.then hk (sat_draw hk.tp (by decide)) fun v S1 ⟨ch, e, _, _⟩ hk => ?_
      subst e
      try simp (decide := true) only [EV]
      refine Gen.then hk (sat_draw hk.tp (by omega)) fun v S1 ⟨mv, e, hv0, hv1⟩ hk => ?_
      subst e
      try simp (decide := true) only [EV]
      refine R.Sat.bind (P := fun fl S' => Kp t S S' ∧ ∃ m : Mv, fl = .nx [some (.o t), some (.d (.int many)), some (.d (.int w)), some (.d (.int fw)), some (.d (.int lz)), some (.d (tabD tt)), some (.d (.int (0 + (j : Int)))), some (.d (rowD ms)), some (.d (.int (0 + (u : Int)))), some (.d (.int ch)), some (.d m.d)] ∧ MvOk many m) ?_ ?_
      · refine Sat_pick (fun _ => ?_) fun _ => ?_
        · refine Sat_pick (fun hb => ?_) fun _ => ?_
          · have hb := of_decide_eq_true hb
            try simp (decide := true) only [EV]
            refine Gen.then hk (sat_draw hk.tp (by omega)) fun v S1 ⟨x, e, hx0, hx1⟩ hk => ?_
            subst e
            try simp (decide := true) only [EV]
            exact ⟨hk, .to (0 + (j : Int) + 1 + x).toNat, by simp only [Mv.d]; rw [show (((0 + (j : Int) + 1 + x).toNat : Nat) : Int) = 0 + (j : Int) + 1 + x by omega], fun n e => by cases e; omega⟩
          · exact ⟨hk, .no, rfl, fun n e => by cases e⟩
        · exact ⟨hk, .to mv.toNat, by simp only [Mv.d]; rw [show ((mv.toNat : Nat) : Int) = mv by omega], fun n e => by cases e; omega⟩
      rintro fl S2 ⟨hk, m, rfl, hm⟩
      simp (decide := true) only [EV]
      refine R.Sat.bind (P := fun fl S' => Kp t S S' ∧ ∃ m : Mv, fl = .nx [some (.o t), some (.d (.int many)), some (.d (.int w)), some (.d (.int fw)), some (.d (.int lz)), some (.d (tabD tt)), some (.d (.int (0 + (j : Int)))), some (.d (rowD ms)), some (.d (.int (0 + (u : Int)))), some (.d (.int ch)), some (.d m.d)] ∧ MvOk many m) ?_ ?_
      · refine Sat_pick (fun _ => ?_) fun _ => ?_
        · exact ⟨hk, .no, rfl, fun n e => by cases e⟩
        · exact ⟨hk, m, rfl, hm⟩
      rintro fl S2 ⟨hk, m, rfl, hm⟩
      simp (decide := true) only [EV]
      refine R.Sat.bind (P := fun fl S' => Kp t S S' ∧ ∃ m : Mv, fl = .nx [some (.o t), some (.d (.int many)), some (.d (.int w)), some (.d (.int fw)), some (.d (.int lz)), some (.d (tabD tt)), some (.d (.int (0 + (j : Int)))), some (.d (rowD ms)), some (.d (.int (0 + (u : Int)))), some (.d (.int ch)), some (.d m.d)] ∧ MvOk many m) ?_ ?_
      · refine Sat_pick (fun _ => ?_) fun _ => ?_
        · exact ⟨hk, .out, rfl, fun n e => by cases e⟩
        · exact ⟨hk, m, rfl, hm⟩
      rintro fl S2 ⟨hk, m, rfl, hm⟩
      simp (decide := true) only [EV, row_cat (ms := ms) (m := m) (by omega)]
      refine ⟨hk, ms ++ [m], _, _, _, rfl, by rw [List.length_append, List.length_singleton]; omega, fun x hx => ?_⟩
      rcases List.mem_append.mp hx with hx | hx
      · exact hok x hx
      · rw [List.mem_singleton.mp hx]; exact hm
    · rintro Γ S' ⟨hk, ms, c, d, e, rfl, hl, hok2⟩
      simp (decide := true) only [EV, tab_cat (t := tt) (r := ms) (by omega)]
      refine ⟨hk, tt ++ [ms], _, _, _, _, _, rfl, by rw [List.length_append, List.length_singleton]; omega, fun x hx => ?_⟩
      rcases List.mem_append.mp hx with hx | hx
      · exact hok x hx
      · rw [List.mem_singleton.mp hx]; exact ⟨hl, hok2⟩
  · rintro Γ S' ⟨hk, tt, a, b, c, d, e, rfl, hl, hok⟩
    simp (decide := true) only [EV, fin_d]
    have hl : tt.length = many := hl
    exact ⟨⟨tt, w, rfl, ⟨fun r hr => (hok r hr).1, fun r hr n hn => by rw [hl]; exact (hok r hr).2 _ hn n rfl⟩, by omega, by omega, hw0, hw1⟩, by rw [hk.take]; exact hk⟩
/-! ### rows and moves -/
theorem mv_none (m : Mv) : gIsN false (.d m.d) (.d .none) = fun S => .ok (.d (.bool (match m with | .no => true | _ => false))) S := by funext S; cases m <;> rfl
theorem row_at {t : List (List Mv)} {w s : Nat} (h : TabW t w) (hs : s < t.length) : atI (t.map rowD) (s : Int) = some (rowD t[s]) := by rw [atI_nat (by rw [List.length_map]; exact hs), List.getElem_map]
theorem ints_at {l : List Int} {n : Nat} (h : n < l.length) : atI (l.map PyData.int) (n : Int) = some (.int l[n]) := by rw [atI_nat (by rw [List.length_map]; exact h), List.getElem_map]

/-! ### states reached, in order: the plain law -/
theorem getD_at {α : Type} {l : List α} {n : Nat} {a : α} (h : n < l.length) : l.getD n a = l[n] := by
  rw [List.getD_eq_getElem?_getD, List.getElem?_eq_getElem h, Option.getD_some]
theorem row_mem {t : List (List Mv)} {w s n : Nat} (h : TabW t w) (hs : s < t.length) (hm : Mv.to n ∈ t.getD s []) : n < t.length := by
  rw [getD_at hs] at hm
  exact h.to _ (List.getElem_mem hs) n hm
abbrev Wy := List Nat × Mv
def rowOf (t : List (List Mv)) : Mv → List Mv
  | .to s => t.getD s []
  | _ => []
def push (sch : List Nat) (fs : List Wy) (u : Nat) (m : Mv) : List Wy := if m = .no ∨ m ∈ fs.map (·.2) then fs else fs ++ [(sch ++ [u], m)]
def pushes (sch : List Nat) : List Mv → Nat → List Wy → List Wy
  | [], _, fs => fs
  | m :: r, u, fs => pushes sch r (u + 1) (push sch fs u m)
def bfs (t : List (List Mv)) : Nat → Nat → List Wy → List Wy
  | 0, _, fs => fs
  | n + 1, k, fs => match fs[k]? with
    | none => fs
    | some p => bfs t n (k + 1) (pushes p.1 (rowOf t p.2) 0 fs)
def isNo : Mv → Bool
  | .no => true
  | _ => false
def atRest (t : List (List Mv)) (p : Wy) : Bool := (rowOf t p.2).all isNo
def found (t : List (List Mv)) (s : Nat) : List Wy := bfs t (t.length + 1) 0 [([], .to s)]
def ends (t : List (List Mv)) (s : Nat) : List Wy := (found t s).filter (atRest t)
structure WkOk (t : List (List Mv)) (fs : List Wy) : Prop where
  nd : (fs.map (·.2)).Nodup
  no : ∀ p ∈ fs, p.2 ≠ .no
  to : ∀ p ∈ fs, ∀ n, p.2 = .to n → n < t.length
  ln : ∀ p ∈ fs, p.1.length ≤ fs.length
theorem push_pre {sch : List Nat} {fs : List Wy} {u : Nat} {m : Mv} : ∃ more, push sch fs u m = fs ++ more := by
  unfold push
  split
  · exact ⟨[], (List.append_nil _).symm⟩
  · exact ⟨_, rfl⟩
theorem pushes_pre {sch : List Nat} : ∀ {r : List Mv} {u : Nat} {fs : List Wy}, ∃ more, pushes sch r u fs = fs ++ more
  | [], u, fs => ⟨[], (List.append_nil _).symm⟩
  | m :: r, u, fs => by
    obtain ⟨a, ha⟩ := push_pre (sch := sch) (fs := fs) (u := u) (m := m)
    obtain ⟨b, hb⟩ := pushes_pre (sch := sch) (r := r) (u := u + 1) (fs := push sch fs u m)
    exact ⟨a ++ b, by show pushes sch r (u + 1) (push sch fs u m) = _; rw [hb, ha, List.append_assoc]⟩
theorem push_ok {t : List (List Mv)} {sch : List Nat} {fs : List Wy} {u : Nat} {m : Mv} (h : WkOk t fs) (hs : sch.length ≤ fs.length) (hm : ∀ n, m = .to n → n < t.length) : WkOk t (push sch fs u m) ∧ fs.length ≤ (push sch fs u m).length := by
  unfold push
  split
  · exact ⟨h, Nat.le_refl _⟩
  · rename_i hc
    have hn : m ≠ .no := fun z => hc (.inl z)
    have hf : m ∉ fs.map (·.2) := fun z => hc (.inr z)
    refine ⟨⟨?_, fun p hp => ?_, fun p hp => ?_, fun p hp => ?_⟩, by rw [List.length_append]; omega⟩
    · rw [List.map_append, List.nodup_append]
      exact ⟨h.nd, by simp, fun a ha b hb e => by simp only [List.map_cons, List.map_nil, List.mem_singleton] at hb; rw [e, hb] at ha; exact hf ha⟩
    · rcases List.mem_append.mp hp with hp | hp
      · exact h.no p hp
      · rw [List.mem_singleton.mp hp]; exact hn
    · rcases List.mem_append.mp hp with hp | hp
      · exact h.to p hp
      · rw [List.mem_singleton.mp hp]; exact hm
    · rw [List.length_append, List.length_singleton]
      rcases List.mem_append.mp hp with hp | hp
      · have := h.ln p hp; omega
      · rw [List.mem_singleton.mp hp, List.length_append, List.length_singleton]; omega
theorem pushes_ok {t : List (List Mv)} {sch : List Nat} : ∀ {r : List Mv} {u : Nat} {fs : List Wy}, WkOk t fs → sch.length ≤ fs.length → (∀ m ∈ r, ∀ n, m = .to n → n < t.length) → WkOk t (pushes sch r u fs)
  | [], u, fs, h, _, _ => h
  | m :: r, u, fs, h, hs, hm => by
    obtain ⟨h1, h2⟩ := push_ok (u := u) h hs (hm m List.mem_cons_self)
    exact pushes_ok (r := r) (u := u + 1) h1 (by omega) fun x hx => hm x (List.mem_cons_of_mem _ hx)
theorem row_of_to {t : List (List Mv)} {w : Nat} (h : TabW t w) {m : Mv} (hm : ∀ n, m = .to n → n < t.length) : ∀ x ∈ rowOf t m, ∀ n, x = .to n → n < t.length := by
  intro x hx n e
  cases m with
  | no => cases hx
  | out => cases hx
  | to s =>
    subst e
    exact row_mem h (hm s rfl) hx
theorem bfs_stop {t : List (List Mv)} {n k : Nat} {fs : List Wy} (h : fs.length ≤ k) : bfs t n k fs = fs := by
  cases n with
  | zero => rfl
  | succ n =>
    unfold bfs
    rw [List.getElem?_eq_none h]
theorem bfs_step {t : List (List Mv)} {n k : Nat} {fs : List Wy} (h : k < fs.length) : bfs t (n + 1) k fs = bfs t n (k + 1) (pushes fs[k].1 (rowOf t fs[k].2) 0 fs) := by
  rw [bfs]
  rw [List.getElem?_eq_getElem h]
theorem wk_len {t : List (List Mv)} {fs : List Wy} (h : WkOk t fs) : fs.length ≤ t.length + 1 := by
  have := nodup_le (l := fs.map (·.2)) (m := .out :: (List.range t.length).map .to) h.nd fun x hx => by
    obtain ⟨p, hp, rfl⟩ := List.mem_map.mp hx
    cases e : p.2 with
    | no => exact absurd e (h.no p hp)
    | out => exact List.mem_cons_self
    | to n => exact List.mem_cons_of_mem _ (List.mem_map.mpr ⟨n, List.mem_range.mpr (h.to p hp n e), rfl⟩)
  simpa using this
theorem wk_one {t : List (List Mv)} {s : Nat} (h : s < t.length) : WkOk t [([], .to s)] :=
  ⟨by simp, fun p hp => by rw [List.mem_singleton.mp hp]; exact (fun z => nomatch z), fun p hp n e => by rw [List.mem_singleton.mp hp] at e; cases e; exact h, fun p hp => by rw [List.mem_singleton.mp hp]; exact Nat.zero_le _⟩
theorem bfs_ok {t : List (List Mv)} {w : Nat} (hT : TabW t w) : ∀ (n k : Nat) {fs : List Wy}, WkOk t fs → WkOk t (bfs t n k fs)
  | 0, k, fs, h => h
  | n + 1, k, fs, h => by
    by_cases hk : k < fs.length
    · rw [bfs_step hk]
      exact bfs_ok hT n (k + 1) (pushes_ok h (h.ln _ (List.getElem_mem hk)) (row_of_to hT (h.to _ (List.getElem_mem hk))))
    · rw [bfs_stop (by omega)]
      exact h
theorem found_ok {t : List (List Mv)} {w s : Nat} (hT : TabW t w) (hs : s < t.length) : WkOk t (found t s) := bfs_ok hT _ _ (wk_one hs)
def wyD (p : Wy) : PyData := .tuple [.tuple (p.1.map fun (x : Nat) => .int x), p.2.d]
def schD (p : Wy) : PyData := .tuple (p.1.map fun (x : Nat) => .int x)
def stD (p : Wy) : PyData := p.2.d
/-! ### what the code asks of moves -/
theorem mv_eqv (a b : Mv) : PyData.eqv a.d b.d = decide (a = b) := by
  cases a <;> cases b <;> simp [Mv.d, PyData.eqv]
  rw [Bool.eq_iff_iff]
  simp only [beq_iff_eq, decide_eq_true_eq]
  omega
theorem mv_plain (m : Mv) : m.d.plain = true := by cases m <;> rfl
theorem mv_depth (m : Mv) : m.d.depth = 0 := by cases m <;> rfl
theorem mv_any (l : List Mv) (m : Mv) : (l.map Mv.d).any (fun z => PyData.eqv z m.d) = decide (m ∈ l) := by
  rw [List.any_map]
  induction l with
  | nil => simp
  | cons a r ih =>
    rw [List.any_cons, ih]
    show (PyData.eqv a.d m.d || decide (m ∈ r)) = _
    rw [mv_eqv]
    by_cases h : a = m
    · subst h; simp
    · have h2 : ¬ m = a := fun e => h e.symm
      simp [h, h2]
theorem mv_nin (l : List Mv) (m : Mv) : dNotIn m.d (.list (l.map Mv.d)) = some (.bool (!decide (m ∈ l))) := by
  have h : min (PyData.depthAll (l.map Mv.d)) (PyData.depth m.d) ≤ 60 := Nat.le_trans (Nat.min_le_right _ _) (by rw [mv_depth]; omega)
  have e : dInB m.d (.list (l.map Mv.d)) = if min (PyData.depthAll (l.map Mv.d)) (PyData.depth m.d) ≤ 60 ∧ PyData.plainAll (l.map Mv.d) = true ∧ PyData.plain m.d = true then some ((l.map Mv.d).any fun z => PyData.eqv z m.d) else none := by cases m <;> rfl
  unfold dNotIn
  rw [e, if_pos ⟨h, plain_map mv_plain l, mv_plain m⟩, mv_any]
  rfl
theorem mv_neo (m : Mv) : dNe m.d (.str "out") = some (.bool (!decide (m = .out))) := by cases m <;> rfl
theorem mv_eqo (m : Mv) : dEq m.d (.str "out") = some (.bool (decide (m = .out))) := by cases m <;> rfl
theorem mv_isn' (m : Mv) (S : Sto) : gIsN true (.d m.d) (.d .none) S = .ok (.d (.bool (!isNo m))) S := by cases m <;> rfl
theorem mv_is (m : Mv) (S : Sto) : gIsN false (.d m.d) (.d .none) S = .ok (.d (.bool (isNo m))) S := by cases m <;> rfl
theorem isNo_iff (m : Mv) : isNo m = decide (m = .no) := by cases m <;> rfl
/-- the dict of the states known -/
def knD (ms : List Mv) : Kvs := ms.map fun m => (m.d, .bool true)
theorem mv_nk (a b : Mv) : keq a.d b.d = decide (a = b) := by
  unfold keq
  cases a <;> cases b <;> simp [Mv.d, nkOf]
  omega
theorem kn_look (ms : List Mv) (m : Mv) : (dLook (knD ms) m.d).isSome = decide (m ∈ ms) := by
  unfold dLook knD
  rw [Option.isSome_map]
  induction ms with
  | nil => rfl
  | cons a r ih =>
    rw [List.map_cons, List.find?_cons]
    show Option.isSome (match keq a.d m.d with | true => _ | false => _) = _
    rw [mv_nk]
    by_cases h : a = m
    · subst h; simp
    · have h2 : ¬ m = a := fun e => h e.symm
      simp [h, h2] at ih ⊢
      exact ih
theorem kn_kind {ms : List Mv} {m : Mv} (h : m ≠ .no) (hs : ∀ x ∈ ms, x ≠ .no) : kindB (knD ms) m.d = true := by
  have : keyB m.d = true := by cases m <;> first | rfl | exact absurd rfl h
  unfold kindB
  rw [this, Bool.true_and]
  cases ms with
  | nil => rfl
  | cons a r => cases a <;> cases m <;> rfl
theorem kn_put {ms : List Mv} {m : Mv} (h : m ∉ ms) : dPut (knD ms) m.d (.bool true) = knD (ms ++ [m]) := by
  unfold dPut
  have e : (knD ms).any (fun p => keq p.1 m.d) = false := by
    rw [Bool.eq_false_iff]
    intro z
    obtain ⟨p, hp, hq⟩ := List.any_eq_true.mp z
    obtain ⟨x, hx, rfl⟩ := List.mem_map.mp hp
    have hq : keq x.d m.d = true := hq
    rw [mv_nk] at hq
    have := of_decide_eq_true hq
    subst this
    exact h hx
  rw [e]
  unfold knD
  rw [List.map_append]
  rfl

/-! ### heights: the plain law -/
def rowH (K : Nat → Option Nat) : List Mv → Nat → Option Nat
  | [], h => some h
  | .no :: r, h => rowH K r h
  | .out :: r, h => rowH K r (max h 1)
  | .to n :: r, h => match K n with
    | none => none
    | some x => rowH K r (max h (x + 1))
theorem rowH_to {K : Nat → Option Nat} {n : Nat} {r : List Mv} {h x : Nat} (e : K n = some x) : rowH K (.to n :: r) h = rowH K r (max h (x + 1)) := by rw [rowH]; rw [e]
theorem rowH_to0 {K : Nat → Option Nat} {n : Nat} {r : List Mv} {h : Nat} (e : K n = none) : rowH K (.to n :: r) h = none := by rw [rowH]; rw [e]
def hg (t : List (List Mv)) : Nat → Nat → Option Nat
  | 0, _ => none
  | f + 1, s => rowH (hg t f) (t.getD s []) 0
theorem rowH_mono {K K' : Nat → Option Nat} (hK : ∀ n x, K n = some x → K' n = some x) : ∀ (r : List Mv) (h z : Nat), rowH K r h = some z → rowH K' r h = some z
  | [], h, z, e => e
  | .no :: r, h, z, e => rowH_mono hK r h z e
  | .out :: r, h, z, e => rowH_mono hK r _ z e
  | .to n :: r, h, z, e => by
    cases hn : K n with
    | none => rw [rowH_to0 hn] at e; cases e
    | some x =>
      rw [rowH_to hn] at e
      rw [rowH_to (hK n x hn)]
      exact rowH_mono hK r _ z e
theorem rowH_ge {K : Nat → Option Nat} : ∀ (r : List Mv) (h z : Nat), rowH K r h = some z → h ≤ z ∧ (Mv.out ∈ r → 1 ≤ z) ∧ ∀ n, Mv.to n ∈ r → ∃ x, K n = some x ∧ x + 1 ≤ z
  | [], h, z, e => by
    cases e
    exact ⟨Nat.le_refl _, (fun z => by cases z), fun n z => by cases z⟩
  | .no :: r, h, z, e => by
    obtain ⟨h1, h2, h3⟩ := rowH_ge r h z e
    exact ⟨h1, fun m => h2 (by simpa using m), fun n m => h3 n (by simpa using m)⟩
  | .out :: r, h, z, e => by
    obtain ⟨h1, h2, h3⟩ := rowH_ge r _ z (show rowH K r (max h 1) = some z from e)
    exact ⟨by omega, fun m => by omega, fun n m => h3 n (by simpa using m)⟩
  | .to q :: r, h, z, e => by
    cases hn : K q with
    | none => rw [rowH_to0 hn] at e; cases e
    | some x =>
      rw [rowH_to hn] at e
      obtain ⟨h1, h2, h3⟩ := rowH_ge r _ z e
      refine ⟨by omega, fun m => h2 (by simpa using m), fun n m => ?_⟩
      rcases List.mem_cons.mp m with m | m
      · cases m
        exact ⟨x, hn, by omega⟩
      · exact h3 n m
theorem rowH_cases {K : Nat → Option Nat} : ∀ (r : List Mv) (h z : Nat), rowH K r h = some z → z = h ∨ (Mv.out ∈ r ∧ z = 1) ∨ ∃ n x, Mv.to n ∈ r ∧ K n = some x ∧ z = x + 1
  | [], h, z, e => by cases e; exact .inl rfl
  | .no :: r, h, z, e => by
    rcases rowH_cases r h z e with a | ⟨a, b⟩ | ⟨n, x, a, b, c⟩
    · exact .inl a
    · exact .inr (.inl ⟨List.mem_cons_of_mem _ a, b⟩)
    · exact .inr (.inr ⟨n, x, List.mem_cons_of_mem _ a, b, c⟩)
  | .out :: r, h, z, e => by
    rcases rowH_cases r _ z (show rowH K r (max h 1) = some z from e) with a | ⟨a, b⟩ | ⟨n, x, a, b, c⟩
    · by_cases hh : h = 0
      · exact .inr (.inl ⟨List.mem_cons_self, by omega⟩)
      · exact .inl (by omega)
    · exact .inr (.inl ⟨List.mem_cons_of_mem _ a, b⟩)
    · exact .inr (.inr ⟨n, x, List.mem_cons_of_mem _ a, b, c⟩)
  | .to q :: r, h, z, e => by
    cases hn : K q with
    | none => rw [rowH_to0 hn] at e; cases e
    | some y =>
      rw [rowH_to hn] at e
      rcases rowH_cases r _ z e with a | ⟨a, b⟩ | ⟨n, x, a, b, c⟩
      · by_cases hh : y + 1 ≤ h
        · exact .inl (by omega)
        · exact .inr (.inr ⟨q, y, List.mem_cons_self, hn, by omega⟩)
      · exact .inr (.inl ⟨List.mem_cons_of_mem _ a, b⟩)
      · exact .inr (.inr ⟨n, x, List.mem_cons_of_mem _ a, b, c⟩)
theorem rowH_none {K : Nat → Option Nat} : ∀ (r : List Mv) (h : Nat), rowH K r h = none → ∃ n, Mv.to n ∈ r ∧ K n = none
  | [], h, e => by cases e
  | .no :: r, h, e => by
    obtain ⟨n, a, b⟩ := rowH_none r h e
    exact ⟨n, List.mem_cons_of_mem _ a, b⟩
  | .out :: r, h, e => by
    obtain ⟨n, a, b⟩ := rowH_none r _ (show rowH K r (max h 1) = none from e)
    exact ⟨n, List.mem_cons_of_mem _ a, b⟩
  | .to q :: r, h, e => by
    cases hn : K q with
    | none => exact ⟨q, List.mem_cons_self, hn⟩
    | some y =>
      rw [rowH_to hn] at e
      obtain ⟨n, a, b⟩ := rowH_none r _ e
      exact ⟨n, List.mem_cons_of_mem _ a, b⟩
theorem hg_mono1 {t : List (List Mv)} : ∀ (f : Nat) {s h : Nat}, hg t f s = some h → hg t (f + 1) s = some h
  | 0, s, h, e => by cases e
  | f + 1, s, h, e => rowH_mono (fun n x => hg_mono1 f) _ _ _ e
theorem hg_mono {t : List (List Mv)} {f g s h : Nat} (hfg : f ≤ g) (e : hg t f s = some h) : hg t g s = some h := by
  obtain ⟨d, rfl⟩ := Nat.exists_eq_add_of_le hfg
  induction d with
  | zero => exact e
  | succ d ih => exact hg_mono1 _ (ih (by omega))
theorem hg_fun {t : List (List Mv)} {f g s h h' : Nat} (e : hg t f s = some h) (e' : hg t g s = some h') : h = h' := by
  have a := hg_mono (Nat.le_max_left f g) e
  have b := hg_mono (Nat.le_max_right f g) e'
  rw [a] at b
  exact Option.some.inj b
theorem hg_list {t : List (List Mv)} {w : Nat} (hT : TabW t w) : ∀ (f s h : Nat), s < t.length → hg t f s = some h → ∃ l : List Nat, l.length = h ∧ l.Nodup ∧ ∀ x ∈ l, x < t.length ∧ ∃ g y, hg t g x = some y ∧ 1 ≤ y ∧ y ≤ h
  | 0, s, h, _, e => by cases e
  | f + 1, s, h, hs, e => by
    rcases rowH_cases _ _ _ (show rowH (hg t f) (t.getD s []) 0 = some h from e) with a | ⟨a, b⟩ | ⟨n, x, a, b, c⟩
    · subst a
      exact ⟨[], rfl, List.nodup_nil, fun x hx => by cases hx⟩
    · subst b
      exact ⟨[s], rfl, by simp, fun x hx => by
        rw [List.mem_singleton.mp hx]
        exact ⟨hs, _, _, e, Nat.le_refl _, Nat.le_refl _⟩⟩
    · subst c
      obtain ⟨l, h1, h2, h3⟩ := hg_list hT f n x (row_mem hT hs a) b
      refine ⟨s :: l, by rw [List.length_cons, h1], List.nodup_cons.mpr ⟨fun hm => ?_, h2⟩, fun y hy => ?_⟩
      · obtain ⟨_, g, y, h4, h5, h6⟩ := h3 s hm
        have := hg_fun e h4
        omega
      · rcases List.mem_cons.mp hy with rfl | hy
        · exact ⟨hs, _, _, e, by omega, Nat.le_refl _⟩
        · obtain ⟨h4, g, z, h5, h6, h7⟩ := h3 y hy
          exact ⟨h4, g, z, h5, h6, by omega⟩
theorem hg_le {t : List (List Mv)} {w f s h : Nat} (hT : TabW t w) (hs : s < t.length) (e : hg t f s = some h) : h ≤ t.length := by
  obtain ⟨l, h1, h2, h3⟩ := hg_list hT f s h hs e
  have := nodup_le (l := l) (m := List.range t.length) h2 fun x hx => List.mem_range.mpr (h3 x hx).1
  rw [h1, List.length_range] at this
  exact this
/-! ### the states known, with heights -/
structure KnOk (t : List (List Mv)) (L : List (Nat × Nat)) : Prop where
  nd : (L.map (·.1)).Nodup
  lt : ∀ p ∈ L, p.1 < t.length
  ok : ∃ f, ∀ p ∈ L, hg t f p.1 = some p.2
theorem look_mem2 {L : List (Nat × Nat)} {n x : Nat} (h : L.lookup n = some x) : (n, x) ∈ L := by
  induction L with
  | nil => cases h
  | cons p L ih =>
    rw [List.lookup_cons] at h
    split at h
    · rename_i e
      have e : n = p.1 := by simpa using e
      cases h
      rw [e]
      exact List.mem_cons_self
    · exact List.mem_cons_of_mem _ (ih h)
theorem look_none2 {L : List (Nat × Nat)} {n : Nat} : L.lookup n = none ↔ n ∉ L.map (·.1) := by
  induction L with
  | nil => simp
  | cons p L ih =>
    rw [List.lookup_cons, List.map_cons, List.mem_cons]
    by_cases h : n = p.1
    · subst h; simp
    · have : (n == p.1) = false := by simpa using h
      rw [this]
      simp only [h, false_or]
      exact ih
theorem kn_len {t : List (List Mv)} {L : List (Nat × Nat)} (h : KnOk t L) : L.length ≤ t.length := by
  have := nodup_le (l := L.map (·.1)) (m := List.range t.length) h.nd fun x hx => by
    obtain ⟨p, hp, rfl⟩ := List.mem_map.mp hx
    exact List.mem_range.mpr (h.lt p hp)
  simpa using this
theorem kn_add {t : List (List Mv)} {L : List (Nat × Nat)} {s h : Nat} (hk : KnOk t L) (hs : s < t.length) (hn : s ∉ L.map (·.1)) (e : rowH (fun n => L.lookup n) (t.getD s []) 0 = some h) : KnOk t (L ++ [(s, h)]) := by
  obtain ⟨f, hf⟩ := hk.ok
  refine ⟨?_, fun p hp => ?_, f + 1, fun p hp => ?_⟩
  · rw [List.map_append, List.nodup_append]
    exact ⟨hk.nd, by simp, fun a ha b hb e => by simp only [List.map_cons, List.map_nil, List.mem_singleton] at hb; rw [e, hb] at ha; exact hn ha⟩
  · rcases List.mem_append.mp hp with hp | hp
    · exact hk.lt p hp
    · rw [List.mem_singleton.mp hp]; exact hs
  · rcases List.mem_append.mp hp with hp | hp
    · exact hg_mono1 _ (hf p hp)
    · rw [List.mem_singleton.mp hp]
      exact rowH_mono (fun n x hx => hf _ (look_mem2 hx)) _ _ _ e
/-- no state more can be told -/
def Closed (t : List (List Mv)) (L : List (Nat × Nat)) : Prop := ∀ s, s < t.length → s ∉ L.map (·.1) → rowH (fun n => L.lookup n) (t.getD s []) 0 = none
/-- all states have heights -/
def AllH (t : List (List Mv)) (u : Nat → Nat) : Prop := ∃ f, ∀ s, s < t.length → hg t f s = some (u s)
/-- some states go on for ever -/
def Endless (t : List (List Mv)) (U : Nat → Prop) : Prop := (∃ s, U s) ∧ ∀ s, U s → s < t.length ∧ ∃ n, Mv.to n ∈ t.getD s [] ∧ U n
theorem kn_all {t : List (List Mv)} {L : List (Nat × Nat)} (h : KnOk t L) (hl : L.length = t.length) : (∀ s, s < t.length → ∃ x, L.lookup s = some x) ∧ AllH t fun s => (L.lookup s).getD 0 := by
  have h1 : ∀ s, s < t.length → ∃ x, L.lookup s = some x := fun s hs => by
    cases e : L.lookup s with
    | some x => exact ⟨x, rfl⟩
    | none =>
      exfalso
      have hn := look_none2.mp e
      have := nodup_le (l := s :: L.map (·.1)) (m := List.range t.length) (List.nodup_cons.mpr ⟨hn, h.nd⟩) fun x hx => by
        rcases List.mem_cons.mp hx with rfl | hx
        · exact List.mem_range.mpr hs
        · obtain ⟨p, hp, rfl⟩ := List.mem_map.mp hx
          exact List.mem_range.mpr (h.lt p hp)
      simp at this
      omega
  obtain ⟨f, hf⟩ := h.ok
  refine ⟨h1, f, fun s hs => ?_⟩
  obtain ⟨x, hx⟩ := h1 s hs
  show hg t f s = some ((L.lookup s).getD 0)
  rw [hx]
  exact hf _ (look_mem2 hx)
theorem kn_end {t : List (List Mv)} {w : Nat} {L : List (Nat × Nat)} (hT : TabW t w) (h : KnOk t L) (hc : Closed t L) (hl : L.length < t.length) : Endless t fun s => s < t.length ∧ s ∉ L.map (·.1) := by
  refine ⟨?_, fun s ⟨hs, hn⟩ => ⟨hs, ?_⟩⟩
  · apply Classical.byContradiction
    intro hno
    have := nodup_le (l := List.range t.length) (m := L.map (·.1)) List.nodup_range fun x hx => Classical.byContradiction fun z => hno ⟨x, List.mem_range.mp hx, z⟩
    rw [List.length_range, List.length_map] at this
    omega
  · obtain ⟨n, a, b⟩ := rowH_none _ _ (hc s hs hn)
    exact ⟨n, a, row_mem hT hs a, look_none2.mp b⟩
/-! ### ranks that grow -/
def Valid (t : List (List Mv)) (u : Nat → Nat) : Prop := ∀ s, s < t.length → (Mv.out ∈ t.getD s [] → 1 ≤ u s) ∧ ∀ n, Mv.to n ∈ t.getD s [] → u n + 1 ≤ u s
structure Turn (t : List (List Mv)) (a b : List Nat) : Prop where
  ln : b.length = a.length
  le : ∀ s : Nat, a.getD s 0 ≤ b.getD s 0
  mv : ∀ s, s < t.length → ∀ m ∈ t.getD s [], (m = .out → 1 ≤ b.getD s 0) ∧ ∀ n, m = .to n → a.getD n 0 + 1 ≤ b.getD s 0
/-- after m turns -/
structure Grown (t : List (List Mv)) (m : Nat) (l : List Nat) : Prop where
  ln : l.length = t.length
  up : ∀ u, Valid t u → ∀ s, s < t.length → l.getD s 0 ≤ u s
  lo : ∀ f s h, s < t.length → hg t f s = some h → min h m ≤ l.getD s 0
  en : ∀ U, Endless t U → ∀ s, U s → m ≤ l.getD s 0
theorem grown_zero {t : List (List Mv)} {l : List Nat} (h : l.length = t.length) (h0 : ∀ s : Nat, l.getD s 0 = 0) : Grown t 0 l :=
  ⟨h, fun u hu s hs => by rw [h0]; exact Nat.zero_le _, fun f s h hs e => by rw [Nat.min_zero]; exact Nat.zero_le _, fun U hU s hs => Nat.zero_le _⟩
theorem grown_next {t : List (List Mv)} {w m : Nat} {a b : List Nat} (hT : TabW t w) (h : Grown t m a) (h2 : Turn t a b) (hu : ∀ u, Valid t u → ∀ s, s < t.length → b.getD s 0 ≤ u s) : Grown t (m + 1) b := by
  refine ⟨h2.ln.trans h.ln, hu, fun f s x hs e => ?_, fun U hU s hs => ?_⟩
  · cases f with
    | zero => cases e
    | succ f =>
      rcases rowH_cases _ _ _ (show rowH (hg t f) (t.getD s []) 0 = some x from e) with c | ⟨c, d⟩ | ⟨n, y, c, d, g⟩
      · subst c; omega
      · have := (h2.mv s hs _ c).1 rfl
        omega
      · have h3 := (h2.mv s hs _ c).2 n rfl
        have h4 := h.lo f n y (row_mem hT hs c) d
        omega
  · obtain ⟨h3, n, h4, h5⟩ := hU.2 s hs
    have h6 := (h2.mv s h3 _ h4).2 n rfl
    have h7 := h.en U hU n h5
    omega
theorem allH_valid {t : List (List Mv)} {w : Nat} {u : Nat → Nat} (hT : TabW t w) (h : AllH t u) : Valid t u := by
  obtain ⟨f, hf⟩ := h
  intro s hs
  have e := hf s hs
  cases f with
  | zero => cases e
  | succ f =>
    obtain ⟨h1, h2, h3⟩ := rowH_ge _ _ _ (show rowH (hg t f) (t.getD s []) 0 = some (u s) from e)
    refine ⟨h2, fun n hn => ?_⟩
    obtain ⟨x, hx, hy⟩ := h3 n hn
    have := hg_fun hx (hf n (row_mem hT hs hn))
    omega
theorem grown_all {t : List (List Mv)} {w : Nat} {l : List Nat} {u : Nat → Nat} (hT : TabW t w) (h : Grown t (t.length + 2) l) (hu : AllH t u) : l = (List.range t.length).map u ∧ ∀ x ∈ l, x ≤ t.length := by
  have hv := allH_valid hT hu
  obtain ⟨f, hf⟩ := hu
  have he : ∀ s, s < t.length → l.getD s 0 = u s := fun s hs => by
    have h1 := h.up u hv s hs
    have h2 := h.lo f s _ hs (hf s hs)
    have h3 := hg_le hT hs (hf s hs)
    omega
  have e : l = (List.range t.length).map u := by
    refine List.ext_getElem (by rw [h.ln]; simp) fun i h1 h2 => ?_
    have hi : i < t.length := by rw [← h.ln]; exact h1
    have := he i hi
    rw [getD_at h1] at this
    rw [this, List.getElem_map, List.getElem_range]
  refine ⟨e, fun x hx => ?_⟩
  rw [e] at hx
  obtain ⟨s, hs, rfl⟩ := List.mem_map.mp hx
  exact hg_le hT (List.mem_range.mp hs) (hf s (List.mem_range.mp hs))
theorem grown_end {t : List (List Mv)} {l : List Nat} {U : Nat → Prop} (h : Grown t (t.length + 2) l) (hU : Endless t U) : ∃ x ∈ l, t.length + 2 ≤ x := by
  obtain ⟨s, hs⟩ := hU.1
  have h1 := h.en U hU s hs
  have h2 := (hU.2 s hs).1
  rw [getD_at (by rw [h.ln]; exact h2)] at h1
  exact ⟨_, List.getElem_mem _, h1⟩

end L2.Pv

set_option Elab.async false
set_option linter.all false
set_option maxRecDepth 100000
namespace L2.Pv
open PySem PySem.Spec PyProof.Rows L2
/-! ### the law's own ends -/
theorem app3_0 {S : Sto} {n : Nat} {a b c : List PyData} {d : PyData} (h : S.length = n) (hl : a.length < SZ) : gAppend (.o n) [.d d] (S ++ [.lst a, .lst b, .lst c]) = .ok (.d .none) (S ++ [.lst (a ++ [d]), .lst b, .lst c]) := by
  rw [e_append (ws := a) (by rw [lst_own0 h]; rfl) hl, set_own0 h]
  rfl
theorem app3_1 {S : Sto} {n : Nat} {a b c : List PyData} {d : PyData} (h : S.length = n) (hl : b.length < SZ) : gAppend (.o (n + 1)) [.d d] (S ++ [.lst a, .lst b, .lst c]) = .ok (.d .none) (S ++ [.lst a, .lst (b ++ [d]), .lst c]) := by
  rw [e_append (ws := b) (by rw [lst_ownJ h]; rfl) hl, set_ownJ h]
  rfl
theorem app3_2 {S : Sto} {n : Nat} {a b c : List PyData} {d : PyData} (h : S.length = n) (hl : c.length < SZ) : gAppend (.o (n + 2)) [.d d] (S ++ [.lst a, .lst b, .lst c]) = .ok (.d .none) (S ++ [.lst a, .lst b, .lst (c ++ [d])]) := by
  rw [e_append (ws := c) (by rw [lst_ownJ h]; rfl) hl, set_ownJ h]
  rfl
theorem fin_ownJ {S1 L : Sto} {n j : Nat} {ws : List PyData} (h : S1.length = n) (hL : L[j]? = some (.lst ws)) : fin false n (.o (n + j)) (S1 ++ L) = .ok (.d (.list ws)) S1 := by
  unfold fin
  show (if n + j < n then _ else finO false n (S1 ++ L) (S1 ++ L)[n + j]?) = _
  rw [if_neg (by omega), List.getElem?_append_right (by omega), h, Nat.add_sub_cancel_left, hL]
  show (if false = true then R.ok (Vl.o n) ((S1 ++ L).take n ++ [.lst ws]) else R.ok (Vl.d (.list ws)) ((S1 ++ L).take n)) = _
  rw [if_neg Bool.false_ne_true, take_own h]
theorem row_len {t : List (List Mv)} {w : Nat} (h : TabW t w) {m : Mv} (hm : ∀ n, m = .to n → n < t.length) : (rowOf t m).length ≤ w := by
  cases m with
  | no => exact Nat.zero_le _
  | out => exact Nat.zero_le _
  | to s =>
    show (t.getD s []).length ≤ w
    rw [getD_at (hm s rfl), h.w _ (List.getElem_mem _)]
    exact Nat.le_refl _
theorem filt_no (R : List Mv) : decide (((R.filter fun m => !isNo m).length : Int) = 0) = R.all isNo := by
  induction R with
  | nil => rfl
  | cons a r ih =>
    rw [List.filter_cons, List.all_cons]
    cases h : isNo a with
    | true => exact ih
    | false =>
      rw [Bool.not_false, if_pos rfl, Bool.false_and, List.length_cons]
      exact decide_eq_false (by omega)
theorem st_nin (gs : List Wy) (m : Mv) : dNotIn m.d (.list (gs.map stD)) = some (.bool (!decide (m ∈ gs.map (·.2)))) := by
  have e : gs.map stD = (gs.map (·.2)).map Mv.d := by rw [List.map_map]; rfl
  rw [e]
  exact mv_nin _ m
theorem push_no {sch : List Nat} {fs : List Wy} {u : Nat} {m : Mv} (h : m = .no ∨ m ∈ fs.map (·.2)) : push sch fs u m = fs := if_pos h
theorem push_in {sch : List Nat} {fs : List Wy} {u : Nat} {m : Mv} (h : m ≠ .no) (h2 : m ∉ fs.map (·.2)) : push sch fs u m = fs ++ [(sch ++ [u], m)] := if_neg fun z => z.elim h h2
/-! ### the program's own ends -/
theorem dct_ownJ {S1 L : Sto} {n j : Nat} (h : S1.length = n) : dctOf (S1 ++ L) (n + j) = dctOf L j := by
  unfold dctOf
  rw [List.getElem?_append_right (by omega), h, Nat.add_sub_cancel_left]
theorem l_lstD {k : Kvs} {S : Sto} : lstOf (.dct k :: S) 0 = none := rfl
theorem app2_0 {S : Sto} {n : Nat} {a : List PyData} {b : Ob} {d : PyData} (h : S.length = n) (hl : a.length < SZ) : gAppend (.o n) [.d d] (S ++ [.lst a, b]) = .ok (.d .none) (S ++ [.lst (a ++ [d]), b]) := by
  rw [e_append (ws := a) (by rw [lst_own0 h]; rfl) hl, set_own0 h]
  rfl
theorem enum_map {α : Type} (g : α → PyData) (l : List α) : enumIts (l.map g) = l.zipIdx.map fun p => .tuple [.int (p.2 : Nat), g p.1] := by
  unfold enumIts
  rw [List.zipIdx_map, List.map_map]
  rfl
theorem mem_snd {gs : List Wy} {t : List (List Mv)} (h : WkOk t gs) : ∀ x ∈ gs.map (·.2), x ≠ .no := fun x hx => by
  obtain ⟨p, hp, rfl⟩ := List.mem_map.mp hx
  exact h.no p hp
theorem first_eq {k w s : Nat} {t : List (List Mv)} {S : Sto} (h : TabW t w) (hw : w ≤ 4) (hs : s < t.length) (h60 : t.length ≤ 60) : run T (k + 1) "first_schedules" [.d (tabD t), .d (.int s)] S = .ok (.d (.list ((found t s).map wyD))) S := by
  obtain ⟨n, hn⟩ : ∃ n, S.length = n := ⟨_, rfl⟩
  refine R.Sat.eq ?_
  rw [u_first_schedules, Sat_end]
  unfold b_first_schedules tabD
  have l1 : ∀ a : Ob, (S ++ [a]).length = n + 1 := fun a => by rw [List.length_append, hn]; rfl
  have l3 : ∀ a b : Ob, S ++ [a] ++ [b] = S ++ [a, b] := fun a b => by simp
  have k0 : keyB (.int (s : Nat)) = true := rfl
  simp (decide := true) only [EV, l1, l3, hn, dct_ownJ hn, set_ownJ hn, k0]
  refine Sat_while (fun m Γ S' => ∃ (i : Nat) (fs : List Wy) (a b c d : Option Vl), m = t.length + 1 - i ∧ i ≤ t.length + 1 ∧ WkOk t fs ∧ bfs t (t.length + 1 - i) i fs = found t s ∧ S' = S ++ [.lst (fs.map wyD), .dct (knD (fs.map (·.2)))] ∧ Γ = [some (.d (.tuple (t.map rowD))), some (.d (.int s)), some (.o n), some (.o (n + 1)), some (.d (.int i)), a, b, c, d]) (t.length + 1) (by omega) ?_ ?_
  · exact ⟨0, [([], .to s)], _, _, _, _, rfl, by omega, wk_one hs, rfl, rfl, rfl⟩
  · rintro m Γ S' ⟨i, fs, a, b, c, d, rfl, hi, hk, hb, rfl, rfl⟩
    have hfl := wk_len hk
    by_cases hx : i < fs.length
    · have hc : decide ((i : Int) < (fs.length : Int)) = true := decide_eq_true (by omega)
      rw [show t.length + 1 - i = (t.length - i) + 1 by omega, bfs_step hx] at hb
      obtain ⟨p, hp⟩ : ∃ p, fs[i] = p := ⟨_, rfl⟩
      have i1 : atI (fs.map wyD) (i : Int) = some (wyD p) := by rw [atI_nat (by rw [List.length_map]; exact hx), List.getElem_map, hp]
      have hno := hk.no _ (List.getElem_mem hx)
      have hto := hk.to _ (List.getElem_mem hx)
      have hln := hk.ln _ (List.getElem_mem hx)
      rw [hp] at hno hto hln hb
      have ewy : wyD p = .tuple [.tuple (p.1.map fun (x : Nat) => .int x), p.2.d] := rfl
      simp (decide := true) only [EV, lst_own0 hn, List.length_map, hc]
      rw [Sat_ok]
      show R.Sat _ _
      simp (decide := true) only [EV, lst_own0 hn, List.length_map, i1, ewy, tTp, setAll, mv_eqo]
      cases hpm : p.2 with
      | no => exact absurd hpm hno
      | out =>
        simp (decide := true) only [EV]
        rw [hpm] at hb
        exact ⟨t.length + 1 - (i + 1), by omega, i + 1, fs, _, _, _, _, rfl, by omega, hk, by rw [show t.length + 1 - (i + 1) = t.length - i by omega]; exact hb, rfl, rfl⟩
      | to q =>
        have hq := hto q hpm
        have e1 := row_at h hq
        rw [hpm] at hb
        have hRt := row_of_to h (m := .to q) (fun n e => by cases e; exact hq)
        have hRl := row_len h (m := .to q) (fun n e => by cases e; exact hq)
        have e2 : rowD t[q] = .tuple ((rowOf t (.to q)).map Mv.d) := by
          show _ = PyData.tuple ((t.getD q []).map Mv.d)
          rw [getD_at hq]
          rfl
        generalize rowOf t (.to q) = ms at *
        rw [show decide (Mv.to q = Mv.out) = false from rfl]
        simp (decide := true) only [EV, Mv.d, e1, e2]
        rw [enum_map]
        generalize hG : pushes p.1 ms 0 fs = G at hb
        have hkG : WkOk t G := by rw [← hG]; exact pushes_ok hk hln hRt
        refine Sat_end_id (Sat_forO (all := ms.zipIdx) (g := fun (x : Mv × Nat) => .tuple [.int (x.2 : Nat), x.1.d]) (fun rest Γ S' => ∃ (u : Nat) (gs : List Wy) (a b : Option Vl), rest = (ms.drop u).zipIdx u ∧ u ≤ ms.length ∧ WkOk t gs ∧ p.1.length ≤ gs.length ∧ pushes p.1 (ms.drop u) u gs = G ∧ S' = S ++ [.lst (gs.map wyD), .dct (knD (gs.map (·.2)))] ∧ Γ = [some (.d (.tuple (t.map rowD))), some (.d (.int s)), some (.o n), some (.o (n + 1)), some (.d (.int ((i : Int) + 1))), some (.d (.tuple (p.1.map fun (x : Nat) => .int x))), some (.d (.int q)), a, b]) ?_ ?_ ?_)
        · exact ⟨0, fs, _, _, rfl, by omega, hk, hln, hG, rfl, rfl⟩
        · rintro ⟨m, v⟩ rest Γ S' hv ⟨u, gs, a, b, hrest, hu, hkg, hlg, hpG, rfl, rfl⟩
          have hu2 : u < ms.length := by
            rcases Nat.lt_or_ge u ms.length with z | z
            · exact z
            · rw [List.drop_of_length_le z] at hrest
              cases hrest
          rw [List.drop_eq_getElem_cons hu2, List.zipIdx_cons] at hrest
          obtain ⟨e3, hr3⟩ := List.cons.inj hrest
          obtain ⟨rfl, rfl⟩ := Prod.mk.inj e3
          rw [List.drop_eq_getElem_cons hu2] at hpG
          have hpG : pushes p.1 (ms.drop (v + 1)) (v + 1) (push p.1 gs v ms[v]) = G := hpG
          have hgl := wk_len hkg
          have hkp := push_ok (u := v) hkg hlg (hRt _ (List.getElem_mem hu2))
          have c1 : decide ((p.1.map fun (x : Nat) => PyData.int x).length + 1 ≤ SZ) = true := decide_eq_true (by rw [List.length_map]; show _ ≤ 16777216; omega)
          have c2 : decide ((knD (gs.map (·.2))).length < SZ) = true := decide_eq_true (by unfold knD; rw [List.length_map, List.length_map]; show _ < 16777216; omega)
          refine ⟨_, rfl, ?_⟩
          simp (decide := true) only [EV, mv_isn']
          by_cases hm : ms[v] = .no
          · rw [push_no (.inl hm)] at hpG
            rw [isNo_iff, decide_eq_true hm]
            exact ⟨v + 1, gs, _, _, hr3, by omega, hkg, hlg, hpG, rfl, rfl⟩
          · rw [isNo_iff, decide_eq_false hm]
            have c3 : kindB (knD (gs.map (·.2))) ms[v].d = true := kn_kind hm (mem_snd hkg)
            simp (decide := true) only [EV, lst_ownJ hn, l_lstD, dct_ownJ hn, c3, kn_look]
            refine Sat_pick (fun hz => ?_) fun hz => ?_
            · have hz : ms[v] ∉ gs.map (·.2) := by simpa using hz
              rw [push_in hm hz] at hpG hkp
              simp (decide := true) only [EV, lst_own0 hn, lst_ownJ hn, l_lstD, dct_ownJ hn, c3, c2, kn_put hz, Bool.and_true, set_ownJ hn, c1, app2_0 hn (show (gs.map wyD).length < SZ by rw [List.length_map]; show _ < 16777216; omega)]
              refine ⟨v + 1, gs ++ [(p.1 ++ [v], ms[v])], _, _, hr3, by omega, hkp.1, by omega, hpG, ?_, rfl⟩
              rw [List.map_append, List.map_append]
              show _ = S ++ [Ob.lst (gs.map wyD ++ [.tuple [.tuple ((p.1 ++ [v]).map fun (x : Nat) => .int x), ms[v].d]]), .dct (knD (gs.map (·.2) ++ [ms[v]]))]
              rw [List.map_append]
              rfl
            · have hz : ms[v] ∈ gs.map (·.2) := by simpa using hz
              rw [push_no (.inr hz)] at hpG
              exact ⟨v + 1, gs, _, _, hr3, by omega, hkg, hlg, hpG, rfl, rfl⟩
        · rintro Γ S' ⟨u, gs, a, b, hrest, hu, hkg, hlg, hpG, rfl, rfl⟩
          have hu : u = ms.length := by
            rcases Nat.lt_or_ge u ms.length with z | z
            · rw [List.drop_eq_getElem_cons z, List.zipIdx_cons] at hrest
              cases hrest
            · omega
          subst hu
          rw [List.drop_length] at hpG
          have hpG : gs = G := hpG
          subst hpG
          exact ⟨t.length + 1 - (i + 1), by omega, i + 1, gs, _, _, _, _, rfl, by omega, hkg, by rw [show t.length + 1 - (i + 1) = t.length - i by omega]; exact hb, rfl, rfl⟩
    · have hc : decide ((i : Int) < (fs.length : Int)) = false := decide_eq_false (by omega)
      rw [bfs_stop (by omega)] at hb
      subst hb
      simp (decide := true) only [EV, lst_own0 hn, List.length_map, hc]
      show (fin false n (.o n) _).Sat _
      rw [show fin false n (.o n) = fin false n (.o (n + 0)) from rfl, fin_ownJ (j := 0) hn rfl]
      exact ⟨rfl, rfl⟩

/-! ### a row at rest -/
theorem rest_eq {k : Nat} {r : List Mv} {S : Sto} (h : r.length ≤ 4) : run T (k + 1) "is_at_rest" [.d (rowD r)] S = .ok (.d (.bool (r.all isNo))) S := by
  refine R.Sat.eq ?_
  rw [u_is_at_rest, Sat_end]
  unfold b_is_at_rest rowD
  have hfu : decide (fuelOf (.its (r.map Mv.d)) ≤ SZ) = true := decide_eq_true (by show (r.map Mv.d).length + 1 ≤ 16777216; rw [List.length_map]; omega)
  simp (decide := true) only [EV, hfu]
  rw [comp_mapg (f := fun m => .bool (isNo m)) Mv.d fun m hm => ⟨_, rfl, by simp (decide := true) only [EV, mv_is]⟩]
  have hb : boolsOf (r.map fun m => PyData.bool (isNo m)) = some (r.map isNo) := by
    clear hfu h
    induction r with
    | nil => rfl
    | cons a r ih =>
      show (boolsOf (r.map fun m => PyData.bool (isNo m))).map (isNo a :: ·) = _
      rw [ih]
      rfl
  have ha : (r.map isNo).all id = r.all isNo := by rw [List.all_map]; rfl
  simp (decide := true) only [EV, hb, fin_d, ha]
  exact ⟨rfl, take_all⟩

/-! ### the program's own ends: those at rest -/
theorem ends_eq {k w s : Nat} {t : List (List Mv)} {S : Sto} (h : TabW t w) (hw : w ≤ 4) (hs : s < t.length) (h60 : t.length ≤ 60) : run T (k + 2) "ends_from" [.d (tabD t), .d (.int s)] S = .ok (.d (.tuple ((ends t s).map wyD))) S := by
  obtain ⟨n, hn⟩ : ∃ n, S.length = n := ⟨_, rfl⟩
  refine R.Sat.eq ?_
  rw [u_ends_from, Sat_end]
  unfold b_ends_from
  simp (decide := true) only [EV, hn, first_eq h hw hs h60]
  have hk := found_ok h hs
  have hfl := wk_len hk
  refine Sat_forO (fun rest Γ S' => ∃ (acc : List Wy) (a b : Option Vl), acc ++ rest.filter (atRest t) = ends t s ∧ S' = S ++ [.lst (acc.map wyD)] ∧ Γ = [some (.d (tabD t)), some (.d (.int s)), some (.o n), a, b]) ⟨[], _, _, rfl, rfl, rfl⟩ ?_ ?_
  · rintro p rest Γ S' hp ⟨acc, a, b, hacc, rfl, rfl⟩
    have hno := hk.no _ hp
    have hto := hk.to _ hp
    have hal : acc.length ≤ 61 := by
      have := congrArg List.length hacc
      rw [List.length_append] at this
      have h2 := List.length_filter_le (atRest t) (found t s)
      have h3 : (ends t s).length ≤ (found t s).length := h2
      omega
    have hap : ∀ d : PyData, gAppend (.o n) [.d d] (S ++ [.lst (acc.map wyD)]) = .ok (.d .none) (S ++ [.lst (acc.map wyD ++ [d])]) := fun d => app_own hn (by rw [List.length_map]; show _ < 16777216; omega)
    rw [List.filter_cons] at hacc
    refine ⟨_, rfl, ?_⟩
    simp (decide := true) only [EV, mv_eqo]
    have hat : atRest t p = (rowOf t p.2).all isNo := rfl
    cases hpm : p.2 with
    | no => exact absurd hpm hno
    | out =>
      rw [hat, hpm] at hacc
      simp (decide := true) only [EV, lst_own hn, hap]
      refine ⟨acc ++ [p], _, _, by rw [List.append_assoc]; exact hacc, ?_, rfl⟩
      rw [List.map_append]
      show _ = S ++ [Ob.lst (acc.map wyD ++ [.tuple [.tuple (p.1.map fun (x : Nat) => .int x), p.2.d]])]
      rw [hpm]
    | to q =>
      have hq := hto q hpm
      have e1 := row_at h hq
      have hrl : t[q].length ≤ 4 := by rw [h.w _ (List.getElem_mem hq)]; exact hw
      have e2 : (rowOf t (.to q)).all isNo = t[q].all isNo := by
        show (t.getD q []).all isNo = _
        rw [getD_at hq]
      rw [hat, hpm, e2] at hacc
      rw [show decide (Mv.to q = Mv.out) = false from rfl]
      have g1 : gIx (.d (tabD t)) (.d (.int (q : Nat))) (S ++ [.lst (acc.map wyD)]) = .ok (.d (rowD t[q])) (S ++ [.lst (acc.map wyD)]) := by unfold tabD; rw [v_ixT, e1]; rfl
      simp (decide := true) only [EV, Mv.d, g1, rest_eq hrl]
      refine Sat_pick (fun hz => ?_) fun hz => ?_
      · rw [hz, if_pos rfl] at hacc
        simp (decide := true) only [EV, lst_own hn, hap]
        refine ⟨acc ++ [p], _, _, by rw [List.append_assoc]; exact hacc, ?_, rfl⟩
        rw [List.map_append]
        show _ = S ++ [Ob.lst (acc.map wyD ++ [.tuple [.tuple (p.1.map fun (x : Nat) => .int x), p.2.d]])]
        rw [hpm]
        rfl
      · rw [hz, if_neg Bool.false_ne_true] at hacc
        exact ⟨acc, _, _, hacc, rfl, rfl⟩
  · rintro Γ S' ⟨acc, a, b, hacc, rfl, rfl⟩
    have hacc : acc = ends t s := by simpa using hacc
    subst hacc
    simp (decide := true) only [EV, lst_own hn, fin_d]
    exact ⟨rfl, take_own hn⟩

theorem plain_mv (m : Mv) : Plain m.d := by
  cases m with
  | no => exact .non
  | out => exact .str _
  | to n => exact .int _
theorem plain_wy {p : Wy} (h : p.1.length ≤ 900000) : Plain (wyD p) := .tup _ (fun d hd => by
  simp only [List.mem_cons, List.mem_nil_iff, or_false] at hd
  rcases hd with rfl | rfl
  · exact .tup _ (fun d hd => by obtain ⟨x, _, rfl⟩ := List.mem_map.mp hd; exact .int _) (by rw [List.length_map]; exact h)
  · exact plain_mv _) (by simp)
theorem depth_wy (p : Wy) : (wyD p).depth ≤ 2 := by
  show PyData.depthAll _ + 1 ≤ 2
  have : PyData.depthAll [PyData.tuple (p.1.map fun (x : Nat) => .int x), p.2.d] ≤ 1 := depth_all fun d hd => by
    simp only [List.mem_cons, List.mem_nil_iff, or_false] at hd
    rcases hd with rfl | rfl
    · show PyData.depthAll _ + 1 ≤ 1
      have : PyData.depthAll (p.1.map fun (x : Nat) => PyData.int x) ≤ 0 := depth_all fun d hd => by
        obtain ⟨x, _, rfl⟩ := List.mem_map.mp hd
        exact Nat.le_refl 0
      omega
    · rw [mv_depth]; omega
  omega
theorem ends_mem {t : List (List Mv)} {w s : Nat} (h : TabW t w) (hs : s < t.length) (h60 : t.length ≤ 60) : (∀ p ∈ ends t s, p.1.length ≤ 61 ∧ p.2 ≠ .no ∧ ∀ n, p.2 = .to n → n < t.length) ∧ (ends t s).length ≤ 61 := by
  have hk := found_ok h hs
  have hl := wk_len hk
  refine ⟨fun p hp => ?_, ?_⟩
  · have hp := (List.mem_filter.mp hp).1
    have := hk.ln p hp
    exact ⟨by omega, hk.no p hp, hk.to p hp⟩
  · have : (ends t s).length ≤ (found t s).length := List.length_filter_le _ _
    omega

theorem enum_rows (t : List (List Mv)) : enumIts (t.map rowD) = (List.range t.length).map fun (j : Nat) => .tuple [.int (j : Nat), rowD (t.getD j [])] := by
  rw [enum_map]
  refine List.ext_getElem (by simp) fun i h1 h2 => ?_
  have hi : i < t.length := by simpa using h1
  simp [List.getD_eq_getElem?_getD, List.getElem?_eq_getElem hi]
def okM (rk : List Int) (s : Nat) : Mv → Bool
  | .no => true
  | .out => decide (1 ≤ rk.getD s 0)
  | .to n => decide (rk.getD n 0 < rk.getD s 0)
def okRow (t : List (List Mv)) (rk : List Int) (s : Nat) : Bool := (t.getD s []).all (okM rk s)
def okT (t : List (List Mv)) (rk : List Int) : Bool := decide (rk.length = t.length) && (List.range t.length).all (okRow t rk)
def iD (l : List Int) : List PyData := l.map PyData.int
theorem iD_at {l : List Int} {n : Nat} (h : n < l.length) : atI (iD l) (n : Int) = some (.int (l.getD n 0)) := by rw [getD_at h]; exact ints_at h
theorem iD_len {l : List Int} : (iD l).length = l.length := List.length_map _
theorem takes_eq {k w : Nat} {t : List (List Mv)} {rk : List Int} {S : Sto} (h : TabW t w) : run T (k + 1) "takes_ranks" [.d (tabD t), .d (.tuple (iD rk))] S = .ok (.d (.bool (okT t rk))) S := by
  refine R.Sat.eq ?_
  rw [u_takes_ranks, Sat_end]
  unfold b_takes_ranks tabD
  simp (decide := true) only [EV, List.length_map, iD_len]
  unfold okT
  by_cases hl : rk.length = t.length
  · rw [decide_eq_true hl, Bool.true_and]
    rw [show decide ((rk.length : Int) = (t.length : Int)) = true from decide_eq_true (by omega)]
    simp (decide := true) only [EV, enum_rows]
    generalize hW : (List.range t.length).all (okRow t rk) = W
    refine Sat_forO (fun rest Γ S' => S' = S ∧ ∃ a b c : Option Vl, Γ = [some (.d (.tuple (t.map rowD))), some (.d (.tuple (iD rk))), a, b, c] ∧ rest.all (okRow t rk) = W) ⟨rfl, _, _, _, rfl, hW⟩ ?_ ?_
    · rintro j rest Γ S' hj ⟨rfl, a, b, c, rfl, hA⟩
      have hj := List.mem_range.mp hj
      have e2 : rowD (t.getD j []) = .tuple ((t.getD j []).map Mv.d) := rfl
      refine ⟨_, rfl, ?_⟩
      simp (decide := true) only [EV, e2]
      refine Sat_end_id (Sat_forO (fun ir Γ S2 => S2 = S' ∧ ∃ c : Option Vl, Γ = [some (.d (.tuple (t.map rowD))), some (.d (.tuple (iD rk))), some (.d (.int (j : Nat))), some (.d (.tuple ((t.getD j []).map Mv.d))), c] ∧ (ir.all (okM rk j) && rest.all (okRow t rk)) = W) ⟨rfl, _, rfl, by rw [List.all_cons] at hA; exact hA⟩ ?_ ?_)
      · rintro m ir Γ S2 hm ⟨rfl, c, rfl, hB⟩
        rw [List.all_cons] at hB
        refine ⟨_, rfl, ?_⟩
        cases m with
        | no =>
          simp (decide := true) only [EV, mv_out, mv_isn]
          exact ⟨rfl, _, rfl, hB⟩
        | out =>
          simp (decide := true) only [EV, mv_out, mv_isn, iD_at (l := rk) (n := j) (by omega)]
          refine Sat_pick (fun hx => ?_) fun hx => ?_
          · have hx := of_decide_eq_true hx
            have : okM rk j .out = false := decide_eq_false (by omega)
            rw [this] at hB
            simp (decide := true) only [EV, fin_d]
            exact ⟨by rw [← hB]; rfl, take_all⟩
          · have hx := of_decide_eq_false hx
            have : okM rk j .out = true := decide_eq_true (by omega)
            rw [this] at hB
            exact ⟨rfl, _, rfl, hB⟩
        | to n =>
          have hn := row_mem h hj hm
          simp (decide := true) only [EV, mv_out, mv_isn, Mv.d, iD_at (l := rk) (n := j) (by omega), iD_at (l := rk) (n := n) (by omega)]
          refine Sat_pick (fun hx => ?_) fun hx => ?_
          · have hx := of_decide_eq_true hx
            have : okM rk j (.to n) = false := decide_eq_false (by omega)
            rw [this] at hB
            simp (decide := true) only [EV, fin_d]
            exact ⟨by rw [← hB]; rfl, take_all⟩
          · have hx := of_decide_eq_false hx
            have : okM rk j (.to n) = true := decide_eq_true (by omega)
            rw [this] at hB
            exact ⟨rfl, _, rfl, hB⟩
      · rintro Γ S2 ⟨rfl, c, rfl, hB⟩
        exact ⟨rfl, _, _, _, rfl, hB⟩
    · rintro Γ S' ⟨rfl, a, b, c, rfl, hA⟩
      simp (decide := true) only [EV, fin_d]
      exact ⟨by rw [← hA]; rfl, take_all⟩
  · rw [decide_eq_false hl, Bool.false_and]
    rw [show decide ((rk.length : Int) = (t.length : Int)) = false from decide_eq_false (by omega)]
    simp (decide := true) only [EV, fin_d]
    exact ⟨rfl, take_all⟩

end L2.Pv

set_option Elab.async false
set_option linter.all false
set_option maxRecDepth 100000
namespace L2.Pv
open PySem PySem.Spec PyProof.Rows L2
/-! ### ways back -/
def hit (t : List (List Mv)) (s : Nat) (p : Wy) : Bool := decide (Mv.to s ∈ rowOf t p.2)
def ixM (ms : List Mv) (m : Mv) : Nat := ms.findIdx fun x => decide (x = m)
def wayP (t : List (List Mv)) (s : Nat) (p : Wy) : List Nat := p.1 ++ [ixM (rowOf t p.2) (.to s)]
def backP (t : List (List Mv)) (s : Nat) : Option (List Nat) := ((found t s).find? (hit t s)).map (wayP t s)
def natsD (l : List Nat) : PyData := .tuple (l.map fun (x : Nat) => .int x)
def wyO (o : Option (List Nat)) : PyData := match o with
  | some l => natsD l
  | none => .none
theorem nats_cat {l : List Nat} {n : Nat} (h : l.length ≤ 1000) : dAdd (natsD l) (.tuple [.int (n : Nat)]) = some (natsD (l ++ [n])) := by
  unfold natsD
  rw [v_addT, decide_eq_true (show (l.map fun (x : Nat) => PyData.int x).length + [PyData.int (n : Nat)].length ≤ SZ by rw [List.length_map]; show _ + 1 ≤ 16777216; omega), pick_t, List.map_append]
  rfl
theorem plain_mvs (l : List Mv) : PyData.plainAll (l.map Mv.d) = true := by
  induction l with
  | nil => rfl
  | cons a r ih =>
    show (a.d.plain && PyData.plainAll (r.map Mv.d)) = true
    rw [mv_plain, ih]
    rfl
theorem depth_mvs (l : List Mv) : PyData.depthAll (l.map Mv.d) = 0 := by
  have := depth_all (ds := l.map Mv.d) (n := 0) fun d hd => by
    obtain ⟨m, _, rfl⟩ := List.mem_map.mp hd
    exact Nat.le_of_eq (mv_depth m)
  omega
theorem mv_inT (l : List Mv) (m : Mv) : dIn m.d (rowD l) = some (.bool (decide (m ∈ l))) := by
  have e : dIn m.d (rowD l) = obl (if min (PyData.depthAll (l.map Mv.d)) m.d.depth ≤ 60 ∧ PyData.plainAll (l.map Mv.d) = true ∧ m.d.plain = true then some ((l.map Mv.d).any fun z => PyData.eqv z m.d) else none) := by
    unfold rowD
    cases m <;> rfl
  rw [e, if_pos ⟨by rw [depth_mvs]; exact Nat.le_trans (Nat.min_le_left _ _) (by decide), plain_mvs l, mv_plain m⟩, mv_any]
  rfl
theorem idx_mvs {m : Mv} : ∀ {l : List Mv}, m ∈ l → (l.map Mv.d).findIdx? (fun z => PyData.eqv z m.d) = some (ixM l m) := by
  intro l h
  have e : (fun z => PyData.eqv z m.d) ∘ Mv.d = fun x => decide (x = m) := by
    funext x
    exact mv_eqv x m
  rw [List.findIdx?_map, e]
  unfold ixM
  rw [List.findIdx?_eq_some_iff_findIdx_eq]
  exact ⟨List.findIdx_lt_length_of_exists ⟨m, h, decide_eq_true rfl⟩, rfl⟩
theorem gix_mvs {m : Mv} {l : List Mv} (h : m ∈ l) {S : Sto} : gIndexT (.d (rowD l)) [.d m.d] S = .ok (.d (.int (ixM l m : Nat))) S := by
  have e := idx_mvs h
  unfold rowD
  show (match (l.map Mv.d).findIdx? (fun z => PyData.eqv z m.d) with
      | some j => if PyData.depth (.tuple (l.map Mv.d)) ≤ 64 ∧ m.d.depth ≤ 64 ∧ PyData.plainAll (l.map Mv.d) = true ∧ m.d.plain = true then R.ok (Vl.d (.int (j : Nat))) S else .bad
      | none => .bad) = _
  rw [e]
  show (if _ then _ else _) = _
  rw [if_pos ⟨by show PyData.depthAll (l.map Mv.d) + 1 ≤ 64; rw [depth_mvs]; decide, by rw [mv_depth]; decide, plain_mvs l, mv_plain m⟩]
theorem first_return_eq {k w s : Nat} {t : List (List Mv)} {S : Sto} (h : TabW t w) (hw : w ≤ 4) (hs : s < t.length) (h60 : t.length ≤ 60) : run T (k + 2) "first_return" [.d (tabD t), .d (.int s)] S = .ok (.d (wyO (backP t s))) S := by
  refine R.Sat.eq ?_
  rw [u_first_return, Sat_end]
  unfold b_first_return
  simp (decide := true) only [EV, first_eq h hw hs h60]
  have hk := found_ok h hs
  have hfl := wk_len hk
  refine Sat_forO (fun rest Γ S' => ∃ (a b : Option Vl), backP t s = (rest.find? (hit t s)).map (wayP t s) ∧ S' = S ∧ Γ = [some (.d (tabD t)), some (.d (.int s)), a, b]) ⟨_, _, rfl, rfl, rfl⟩ ?_ ?_
  · rintro p rest Γ S' hp ⟨a, b, hb, rfl, rfl⟩
    have hno := hk.no _ hp
    have hto := hk.to _ hp
    have hln := hk.ln _ hp
    rw [List.find?_cons] at hb
    refine ⟨_, rfl, ?_⟩
    simp (decide := true) only [EV, mv_neo]
    cases hpm : p.2 with
    | no => exact absurd hpm hno
    | out =>
      have hh : hit t s p = false := by
        unfold hit
        rw [hpm]
        exact decide_eq_false List.not_mem_nil
      rw [hh] at hb
      simp (decide := true) only [EV]
      exact ⟨_, _, hb, rfl, rfl⟩
    | to q =>
      have hq := hto q hpm
      have e1 := row_at h hq
      have e2 : rowOf t (.to q) = t[q] := getD_at hq
      have hh : hit t s p = decide (Mv.to s ∈ t[q]) := by unfold hit; rw [hpm, e2]
      rw [show decide (Mv.to q = Mv.out) = false from rfl]
      have g1 : gIx (.d (tabD t)) (.d (.int (q : Nat))) S' = .ok (.d (rowD t[q])) S' := by unfold tabD; rw [v_ixT, e1]; rfl
      have g2 : dIn (.int (s : Nat)) (rowD t[q]) = some (.bool (decide (Mv.to s ∈ t[q]))) := mv_inT t[q] (.to s)
      simp (decide := true) only [EV, Mv.d, g1, g2]
      refine Sat_pick (fun hz => ?_) fun hz => ?_
      · have g3 : gIndexT (.d (rowD t[q])) [.d (.int (s : Nat))] S' = .ok (.d (.int (ixM t[q] (.to s) : Nat))) S' := gix_mvs (of_decide_eq_true hz)
        have g4 := nats_cat (l := p.1) (n := ixM t[q] (.to s)) (by omega)
        unfold natsD at g4
        rw [hh, hz] at hb
        simp (decide := true) only [EV, g1, g3, g4, fin_d]
        refine ⟨?_, take_all⟩
        rw [hb]
        show _ = Vl.d (natsD (p.1 ++ [ixM (rowOf t p.2) (.to s)]))
        rw [hpm, e2]
        rfl
      · rw [hh, hz] at hb
        exact ⟨_, _, hb, rfl, rfl⟩
  · rintro Γ S' ⟨a, b, hb, rfl, rfl⟩
    simp (decide := true) only [EV, fin_d]
    rw [hb]
    exact ⟨rfl, take_all⟩
/-! ### the best of all states, the first conflict -/
def bestD (o : Option (Nat × List Nat)) : PyData := match o with
  | some b => .tuple [.int (b.1 : Nat), natsD b.2]
  | none => .none
def stepB (t : List (List Mv)) (o : Option (Nat × List Nat)) (s : Nat) : Option (Nat × List Nat) := match backP t s with
  | none => o
  | some l => match o with
    | none => some (s, l)
    | some b => if l.length < b.2.length then some (s, l) else o
def bestP (t : List (List Mv)) (n : Nat) : Option (Nat × List Nat) := (List.range n).foldl (stepB t) none
theorem best_succ (t : List (List Mv)) (n : Nat) : bestP t (n + 1) = stepB t (bestP t n) n := by
  unfold bestP
  rw [List.range_succ, List.foldl_append]
  rfl
def two (t : List (List Mv)) (s : Nat) : Bool := decide (1 < (ends t s).length)
def conO (t : List (List Mv)) (o : Option Nat) : PyData := match o with
  | some s => .tuple [.int (s : Nat), ((ends t s)[0]?.map wyD).getD .none, ((ends t s)[1]?.map wyD).getD .none]
  | none => .none
def conP (t : List (List Mv)) (n : Nat) : Option Nat := (List.range n).find? (two t)
theorem con_succ (t : List (List Mv)) (n : Nat) : conP t (n + 1) = match conP t n with
    | some s => some s
    | none => if two t n = true then some n else none := by
  unfold conP
  rw [List.range_succ, List.find?_append]
  cases (List.range n).find? (two t) with
  | some s => rfl
  | none =>
    show ([n].find? (two t)) = _
    rw [List.find?_cons]
    cases two t n <;> rfl

theorem nats_len {l : List Nat} (h : l.length ≤ 1000) {S : Sto} : gLen (.d (natsD l)) S = .ok (.d (.int (l.length : Nat))) S := by
  unfold natsD
  rw [v_lenT, List.length_map]
theorem back_len {t : List (List Mv)} {w s : Nat} (h : TabW t w) (hs : s < t.length) (h60 : t.length ≤ 60) {l : List Nat} (e : backP t s = some l) : l.length ≤ 62 := by
  unfold backP at e
  obtain ⟨p, hp, rfl⟩ := Option.map_eq_some_iff.mp e
  have hm := List.mem_of_find?_eq_some hp
  have hk := found_ok h hs
  have := hk.ln _ hm
  have := wk_len hk
  show (p.1 ++ [_]).length ≤ 62
  rw [List.length_append, List.length_singleton]
  omega
theorem best_len {t : List (List Mv)} {w : Nat} (h : TabW t w) (h60 : t.length ≤ 60) : ∀ n, n ≤ t.length → ∀ b, bestP t n = some b → b.1 < t.length ∧ b.2.length ≤ 62
  | 0, _, b, e => by
    have e : (none : Option (Nat × List Nat)) = some b := e
    cases e
  | n + 1, hn, b, e => by
    have ih := best_len h h60 n (by omega)
    rw [best_succ] at e
    unfold stepB at e
    split at e
    · exact ih b e
    · rename_i l hl
      have hll := back_len h (show n < t.length by omega) h60 hl
      split at e
      · cases e
        exact ⟨by show n < _; omega, hll⟩
      · rename_i b0 hb0
        split at e
        · cases e
          exact ⟨by show n < _; omega, hll⟩
        · exact ih b e
theorem conflict_eq {k w : Nat} {t : List (List Mv)} {S : Sto} (h : TabW t w) (hw : w ≤ 4) (h60 : t.length ≤ 60) : run T (k + 3) "table_conflict" [.d (tabD t)] S = .ok (.d (conO t (conP t t.length))) S := by
  refine R.Sat.eq ?_
  rw [u_table_conflict, Sat_end]
  unfold b_table_conflict
  have hl : ∀ S, gLen (.d (tabD t)) S = .ok (.d (.int (t.length : Nat))) S := fun S => by unfold tabD; rw [v_lenT, List.length_map]
  have hr : (t.length : Int) ≤ 1000000 := by omega
  simp (decide := true) only [EV, hl, rng_ok (Int.natCast_nonneg t.length) hr, rng_fuel (i := 0) hr]
  rw [rng_map, show Int.toNat (t.length : Int) = t.length by omega]
  refine Sat_forO (all := List.range t.length) (g := fun (j : Nat) => .int (0 + (j : Int))) (fun rest Γ S' => ∃ (i : Nat) (a b : Option Vl), rest = List.range' i (t.length - i) ∧ i ≤ t.length ∧ conP t i = none ∧ S' = S ∧ Γ = [some (.d (tabD t)), a, b]) ⟨0, _, _, by rw [List.range_eq_range']; rfl, Nat.zero_le _, rfl, rfl, rfl⟩ ?_ ?_
  · rintro j rest Γ S' hj ⟨i, a, b, hrest, hi, hc, rfl, rfl⟩
    have hi2 : i < t.length := by
      rcases Nat.lt_or_ge i t.length with z | z
      · exact z
      · rw [show t.length - i = 0 by omega] at hrest
        cases hrest
    rw [show t.length - i = (t.length - (i + 1)) + 1 by omega, List.range'_succ] at hrest
    obtain ⟨rfl, rfl⟩ := List.cons.inj hrest
    have he := ends_eq (k := k) (S := S') h hw hi2 h60
    refine ⟨_, rfl, ?_⟩
    simp (decide := true) only [EV, Int.zero_add, he, List.length_map]
    have htw : decide (1 < ((ends t j).length : Int)) = two t j := decide_eq_decide.mpr (by omega)
    rw [htw]
    cases h2 : two t j with
    | true =>
      have h3 : 1 < (ends t j).length := of_decide_eq_true h2
      have a0 : atI ((ends t j).map wyD) 0 = some (wyD (ends t j)[0]) := by
        have := atI_nat (ds := (ends t j).map wyD) (j := 0) (by rw [List.length_map]; omega)
        rw [List.getElem_map] at this
        exact this
      have a1 : atI ((ends t j).map wyD) 1 = some (wyD (ends t j)[1]) := by
        have := atI_nat (ds := (ends t j).map wyD) (j := 1) (by rw [List.length_map]; omega)
        rw [List.getElem_map] at this
        exact this
      have hcs : conP t t.length = some j := by
        have e1 : conP t (j + 1) = some j := by rw [con_succ, hc, h2]; rfl
        have mono : ∀ n, j + 1 ≤ n → conP t n = some j := fun n => by
          induction n with
          | zero => intro z; omega
          | succ n ih =>
            intro z
            by_cases hn : j + 1 ≤ n
            · rw [con_succ, ih hn]
            · rw [show n = j by omega]; exact e1
        exact mono _ hi2
      simp (decide := true) only [EV, a0, a1, fin_d]
      refine ⟨?_, take_all⟩
      rw [hcs]
      show _ = Vl.d (.tuple [.int (j : Nat), ((ends t j)[0]?.map wyD).getD .none, ((ends t j)[1]?.map wyD).getD .none])
      rw [List.getElem?_eq_getElem (show 0 < (ends t j).length by omega), List.getElem?_eq_getElem h3]
      rfl
    | false =>
      simp (decide := true) only [EV]
      exact ⟨j + 1, _, _, rfl, hi2, by rw [con_succ, hc, h2]; rfl, rfl, rfl⟩
  · rintro Γ S' ⟨i, a, b, hrest, hi, hc, rfl, rfl⟩
    have hi2 : i = t.length := by
      have := congrArg List.length hrest
      rw [List.length_nil, List.length_range'] at this
      omega
    subst hi2
    simp (decide := true) only [EV, fin_d]
    rw [hc]
    exact ⟨rfl, take_all⟩
theorem wyO_isn (neg : Bool) (o : Option (List Nat)) (S : Sto) : gIsN neg (.d (wyO o)) (.d .none) S = .ok (.d (.bool (if neg = true then o.isSome else o.isNone))) S := by cases o <;> cases neg <;> rfl
theorem bestD_isn (neg : Bool) (o : Option (Nat × List Nat)) (S : Sto) : gIsN neg (.d (bestD o)) (.d .none) S = .ok (.d (.bool (if neg = true then o.isSome else o.isNone))) S := by cases o <;> cases neg <;> rfl
/-- the turn of both loops: a better way takes the place -/
def betterS (iW iB : Nat) (iS : Nat) : SS := (sIte (sAnd (sTst (sBin (gIsN true) (sVar iW) (sCon .none))) (sOr (sTst (sBin (gIsN false) (sVar iB) (sCon .none))) (sTst (sBin (cmp2 dLt) (sCall (arg1 gLen) [(sVar iW)]) (sCall (arg1 gLen) [(sBin gIx (sVar iB) (sCon (.int 1)))])))))
  (sSet iB (sCall gTup [(sVar iS), (sVar iW)]))
  sSkip)
theorem fight_eq {k w : Nat} {t : List (List Mv)} {S : Sto} (h : TabW t w) (hw : w ≤ 4) (h60 : t.length ≤ 60) : run T (k + 3) "table_fight" [.d (tabD t)] S = .ok (.d (bestD (bestP t t.length))) S := by
  refine R.Sat.eq ?_
  rw [u_table_fight, Sat_end]
  unfold b_table_fight
  have hl : ∀ S, gLen (.d (tabD t)) S = .ok (.d (.int (t.length : Nat))) S := fun S => by unfold tabD; rw [v_lenT, List.length_map]
  have hr : (t.length : Int) ≤ 1000000 := by omega
  simp (decide := true) only [EV, hl, rng_ok (Int.natCast_nonneg t.length) hr, rng_fuel (i := 0) hr]
  rw [rng_map, show Int.toNat (t.length : Int) = t.length by omega]
  refine Sat_forC (fun rest Γ S' => ∃ (i : Nat) (a b : Option Vl), rest = List.range' i (t.length - i) ∧ i ≤ t.length ∧ S' = S ∧ Γ = [some (.d (tabD t)), some (.d (bestD (bestP t i))), a, b]) ⟨0, _, _, by rw [List.range_eq_range']; rfl, Nat.zero_le _, rfl, rfl⟩ ?_ ?_
  · rintro j rest Γ S' hj ⟨i, a, b, hrest, hi, rfl, rfl⟩
    have hi2 : i < t.length := by
      rcases Nat.lt_or_ge i t.length with z | z
      · exact z
      · rw [show t.length - i = 0 by omega] at hrest
        cases hrest
    rw [show t.length - i = (t.length - (i + 1)) + 1 by omega, List.range'_succ] at hrest
    obtain ⟨rfl, rfl⟩ := List.cons.inj hrest
    have hf := first_return_eq (k := k) (S := S') h hw hi2 h60
    have hbl := best_len h h60 j (by omega)
    have hbs := best_succ t j
    refine ⟨_, rfl, ?_⟩
    simp (decide := true) only [EV, Int.zero_add, hf, wyO_isn]
    cases hw2 : backP t j with
    | none =>
      have e1 : stepB t (bestP t j) j = bestP t j := by unfold stepB; rw [hw2]
      simp (decide := true) only [EV, Option.isSome_none]
      exact ⟨j + 1, _, _, rfl, hi2, rfl, by rw [hbs, e1]⟩
    | some l =>
      have hll := back_len h hi2 h60 hw2
      have e0 : wyO (some l) = natsD l := rfl
      simp (decide := true) only [EV, Option.isSome_some, bestD_isn]
      cases hb : bestP t j with
      | none =>
        have e1 : stepB t (bestP t j) j = some (j, l) := by unfold stepB; rw [hw2, hb]
        simp (decide := true) only [EV, Option.isNone_none, e0]
        exact ⟨j + 1, _, _, rfl, hi2, rfl, by rw [hbs, e1]; rfl⟩
      | some b0 =>
        have hb0 := (hbl b0 hb).2
        have e1 : stepB t (bestP t j) j = if l.length < b0.2.length then some (j, l) else some b0 := by unfold stepB; rw [hw2, hb]
        have e2 : bestD (some b0) = .tuple [.int (b0.1 : Nat), natsD b0.2] := rfl
        simp (decide := true) only [EV, Option.isNone_some, e0, e2, nats_len (show l.length ≤ 1000 by omega), nats_len (show b0.2.length ≤ 1000 by omega)]
        by_cases hlt : l.length < b0.2.length
        · rw [decide_eq_true (show (l.length : Int) < (b0.2.length : Int) by omega)]
          rw [if_pos hlt] at e1
          try simp (decide := true) only [EV]
          exact ⟨j + 1, _, _, rfl, hi2, rfl, by rw [hbs, e1]; rfl⟩
        · rw [decide_eq_false (show ¬(l.length : Int) < (b0.2.length : Int) by omega)]
          rw [if_neg hlt] at e1
          try simp (decide := true) only [EV]
          exact ⟨j + 1, _, _, rfl, hi2, rfl, by rw [hbs, e1]; rfl⟩
  · rintro Γ S' ⟨i, a, b, hrest, hi, rfl, rfl⟩
    have hi2 : i = t.length := by
      have := congrArg List.length hrest
      rw [List.length_nil, List.length_range'] at this
      omega
    subst hi2
    simp (decide := true) only [EV, fin_d]
    exact ⟨rfl, take_all⟩

/-! ### heights: the code -/
def hkD (L : List (Nat × Nat)) : Kvs := L.map fun p => (.int (p.1 : Nat), .int (p.2 : Nat))
def hD : Option Nat → PyData
  | none => .none
  | some h => .int (h : Nat)
theorem hk_look (L : List (Nat × Nat)) (n : Nat) : dLook (hkD L) (.int (n : Nat)) = (L.lookup n).map fun (x : Nat) => PyData.int (x : Nat) := by
  unfold dLook hkD
  induction L with
  | nil => rfl
  | cons p L ih =>
    rw [List.map_cons, List.find?_cons, List.lookup_cons]
    have e : keq (.int (p.1 : Nat)) (.int (n : Nat)) = (n == p.1) := by
      unfold keq
      rw [Bool.eq_iff_iff]
      simp [nkOf]
      omega
    show Option.map _ (match keq (.int (p.1 : Nat)) (.int (n : Nat)) with | true => _ | false => _) = _
    rw [e]
    cases (n == p.1) with
    | true => rfl
    | false => exact ih
theorem hk_kind (L : List (Nat × Nat)) (n : Nat) : kindB (hkD L) (.int (n : Nat)) = true := by
  unfold kindB hkD
  cases L <;> rfl
theorem hk_put {L : List (Nat × Nat)} {n x : Nat} (h : n ∉ L.map (·.1)) : dPut (hkD L) (.int (n : Nat)) (.int (x : Nat)) = hkD (L ++ [(n, x)]) := by
  unfold dPut
  have e : (hkD L).any (fun p => keq p.1 (.int (n : Nat))) = false := by
    rw [Bool.eq_false_iff]
    intro z
    obtain ⟨p, hp, hq⟩ := List.any_eq_true.mp z
    obtain ⟨y, hy, rfl⟩ := List.mem_map.mp hp
    have hq : keq (.int (y.1 : Nat)) (.int (n : Nat)) = true := hq
    unfold keq at hq
    simp [nkOf] at hq
    refine h (List.mem_map.mpr ⟨y, hy, ?_⟩)
    omega
  rw [e]
  unfold hkD
  rw [List.map_append]
  rfl
theorem max_one (h : Nat) : (if (1 : Int) > (h : Int) then (1 : Int) else (h : Int)) = ((max h 1 : Nat) : Int) := by split <;> omega
theorem max_suc (h x : Nat) : (if (x : Int) + 1 > (h : Int) then (x : Int) + 1 else (h : Int)) = ((max h (x + 1) : Nat) : Int) := by split <;> omega
theorem eq_int_str {i : Int} {x : Str} : dEq (.int i) (.str x) = some (.bool false) := rfl
theorem dct_lst {S : Sto} {m : Nat} {kds : Kvs} (h : dctOf S m = some kds) : lstOf S m = none := by
  have := dctOf_ok h
  unfold lstOf
  rw [this]
theorem above_eq {k m : Nat} {r : List Mv} {L : List (Nat × Nat)} {S : Sto} (hd : dctOf S m = some (hkD L)) : run T (k + 1) "height_above" [.d (rowD r), .o m] S = .ok (.d (hD (rowH (fun n => L.lookup n) r 0))) S := by
  have hls := dct_lst hd
  refine R.Sat.eq ?_
  rw [u_height_above, Sat_end]
  unfold b_height_above
  have e0 : rowD r = .tuple (r.map Mv.d) := rfl
  rw [e0]
  simp (decide := true) only [EV]
  generalize hW : rowH (fun n => L.lookup n) r 0 = W
  refine Sat_forO (fun rest Γ S' => S' = S ∧ ∃ (h : Nat) (a : Option Vl), Γ = [some (.d (.tuple (r.map Mv.d))), some (.o m), some (.d (.int h)), a] ∧ rowH (fun n => L.lookup n) rest h = W) ⟨rfl, 0, _, rfl, hW⟩ ?_ ?_
  · rintro mv rest Γ S' hm ⟨rfl, h, a, rfl, hA⟩
    refine ⟨_, rfl, ?_⟩
    cases mv with
    | no =>
      simp (decide := true) only [EV, mv_eqo, mv_isn']
      exact ⟨rfl, h, _, rfl, hA⟩
    | out =>
      simp (decide := true) only [EV, mv_eqo, mv_isn', max_one]
      exact ⟨rfl, max h 1, _, rfl, hA⟩
    | to n =>
      simp (decide := true) only [EV, mv_isn', Mv.d, eq_int_str, hls, hd, hk_kind, hk_look, Option.isSome_map]
      cases e : L.lookup n with
      | none =>
        rw [rowH_to0 e] at hA
        simp (decide := true) only [EV, Option.isSome_none, fin_d]
        exact ⟨by rw [← hA]; rfl, take_all⟩
      | some x =>
        rw [rowH_to e] at hA
        simp (decide := true) only [EV, Option.isSome_some, hls, hd, hk_kind, hk_look, e, Option.map_some, max_suc]
        exact ⟨rfl, max h (x + 1), _, rfl, hA⟩
  · rintro Γ S' ⟨rfl, h, a, rfl, hA⟩
    simp (decide := true) only [EV, fin_d]
    exact ⟨by rw [← hA]; rfl, take_all⟩
theorem dct_own0 {S1 L : Sto} {n : Nat} (h : S1.length = n) : dctOf (S1 ++ L) n = dctOf L 0 := dct_ownJ (j := 0) h
def uD (t : List (List Mv)) (u : Nat → Nat) : List PyData := (List.range t.length).map fun (s : Nat) => PyData.int (u s : Nat)
theorem heights_eq {k w : Nat} {t : List (List Mv)} {S : Sto} (h : TabW t w) (h60 : t.length ≤ 60) : ∃ v, run T (k + 2) "heights" [.d (tabD t)] S = .ok (.d v) S ∧ ((∃ u, AllH t u ∧ v = .tuple (uD t u)) ∨ (v = .none ∧ ∃ U, Endless t U)) := by
  suffices hh : (run T (k + 2) "heights" [.d (tabD t)] S).Sat fun v S' => S' = S ∧ ∃ d, v = .d d ∧ ((∃ u, AllH t u ∧ d = .tuple (uD t u)) ∨ (d = .none ∧ ∃ U, Endless t U)) by
    cases hr : run T (k + 2) "heights" [.d (tabD t)] S with
    | bad => rw [hr] at hh; exact hh.elim
    | ok v S' =>
      rw [hr] at hh
      obtain ⟨rfl, d, rfl, h2⟩ := hh
      exact ⟨d, rfl, h2⟩
  obtain ⟨n, hn⟩ : ∃ n, S.length = n := ⟨_, rfl⟩
  rw [u_heights, Sat_end]
  unfold b_heights tabD
  simp (decide := true) only [EV, hn]
  refine Sat_while (fun m Γ S' => ∃ (L : List (Nat × Nat)) (g : Bool) (a b c : Option Vl), m = (if g = true then t.length - L.length + 1 else 0) ∧ KnOk t L ∧ (g = false → Closed t L) ∧ S' = S ++ [.dct (hkD L)] ∧ Γ = [some (.d (.tuple (t.map rowD))), some (.o n), some (.d (.bool g)), a, b, c]) (t.length + 1) (by omega) ?_ ?_
  · exact ⟨[], true, _, _, _, rfl, ⟨List.nodup_nil, (fun p hp => by cases hp), 0, fun p hp => by cases hp⟩, (fun z => nomatch z), rfl, rfl⟩
  · rintro m Γ S' ⟨L, g, a, b, c, rfl, hk, hcl, rfl, rfl⟩
    have hL := kn_len hk
    cases g with
    | true =>
      simp (decide := true) only [EV]
      rw [Sat_ok]
      show R.Sat _ _
      simp (decide := true) only [EV, enum_rows]
      refine Sat_end_id (Sat_forO (fun rest Γ S' => ∃ (L1 : List (Nat × Nat)) (g : Bool) (a b c : Option Vl), KnOk t L1 ∧ L.length ≤ L1.length ∧ (g = true → L.length < L1.length) ∧ (g = false → ∀ s, s < t.length → s ∉ rest → s ∉ L1.map (·.1) → rowH (fun n => L1.lookup n) (t.getD s []) 0 = none) ∧ S' = S ++ [.dct (hkD L1)] ∧ Γ = [some (.d (.tuple (t.map rowD))), some (.o n), some (.d (.bool g)), a, b, c]) ⟨L, false, _, _, _, hk, Nat.le_refl _, (fun z => nomatch z), (fun _ s hs hn => absurd (List.mem_range.mpr hs) hn), rfl, rfl⟩ ?_ ?_)
      · rintro j rest Γ S' hj ⟨L1, g, a, b, c, hk1, hl1, hg1, hg2, rfl, rfl⟩
        have hj := List.mem_range.mp hj
        refine ⟨_, rfl, ?_⟩
        have hd0 : dctOf (S ++ [.dct (hkD L1)]) n = some (hkD L1) := by rw [dct_own0 hn]; rfl
        have hls0 := dct_lst hd0
        simp (decide := true) only [EV, hls0, hd0, hk_kind, hk_look, Option.isSome_map]
        cases e : L1.lookup j with
        | some x =>
          simp (decide := true) only [EV, Option.isSome_some]
          refine ⟨L1, g, _, _, _, hk1, hl1, hg1, fun hg s hs hn hm => ?_, rfl, rfl⟩
          by_cases hsj : s = j
          · subst hsj
            exact absurd (List.mem_map.mpr ⟨_, look_mem2 e, rfl⟩) hm
          · exact hg2 hg s hs (fun z => by rcases List.mem_cons.mp z with z | z; exact hsj z; exact hn z) hm
        | none =>
          have hjn := look_none2.mp e
          simp (decide := true) only [EV, Option.isSome_none, above_eq hd0]
          cases e2 : rowH (fun n => L1.lookup n) (t.getD j []) 0 with
          | none =>
            simp (decide := true) only [EV, hD]
            refine ⟨L1, g, _, _, _, hk1, hl1, hg1, fun hg s hs hn hm => ?_, rfl, rfl⟩
            by_cases hsj : s = j
            · subst hsj
              exact e2
            · exact hg2 hg s hs (fun z => by rcases List.mem_cons.mp z with z | z; exact hsj z; exact hn z) hm
          | some x =>
            have hk2 := kn_add hk1 hj hjn e2
            have hL1 := kn_len hk1
            have c2 : decide ((hkD L1).length < SZ) = true := decide_eq_true (by unfold hkD; rw [List.length_map]; show _ < 16777216; omega)
            have hset : ∀ o : Ob, (S ++ [Ob.dct (hkD L1)]).set n o = S ++ [o] := fun o => set_own hn
            simp (decide := true) only [EV, hD, hls0, hd0, hk_kind, c2, Bool.and_true, hk_put hjn, hset]
            exact ⟨L1 ++ [(j, x)], true, _, _, _, hk2, by rw [List.length_append]; omega, (fun _ => by rw [List.length_append, List.length_singleton]; omega), (fun z => nomatch z), rfl, rfl⟩
      · rintro Γ S' ⟨L1, g, a, b, c, hk1, hl1, hg1, hg2, rfl, rfl⟩
        have hL1 := kn_len hk1
        refine ⟨if g = true then t.length - L1.length + 1 else 0, ?_, L1, g, _, _, _, rfl, hk1, fun hg s hs hm => hg2 hg s hs (by simp) hm, rfl, rfl⟩
        cases g with
        | true => have := hg1 rfl; simp; omega
        | false => simp
    | false =>
      have hcl := hcl rfl
      have hd0 : dctOf (S ++ [.dct (hkD L)]) n = some (hkD L) := by rw [dct_own0 hn]; rfl
      have hls0 := dct_lst hd0
      have hkl : (hkD L).length = L.length := List.length_map _
      have c2 : decide (L.length ≤ SZ) = true := decide_eq_true (by show _ ≤ 16777216; omega)
      simp (decide := true) only [EV]
      rw [Sat_ok]
      show R.Sat _ _
      simp (decide := true) only [EV, hls0, hd0, c2, hkl, List.length_map]
      refine Sat_pickB (fun hx => ?_) fun hx => ?_
      · have hx := of_decide_eq_true hx
        simp (decide := true) only [EV, fin_d]
        exact ⟨take_own hn, _, rfl, .inr ⟨rfl, _, kn_end h hk hcl (by omega)⟩⟩
      · have hx := of_decide_eq_false hx
        have hle : L.length = t.length := by omega
        have ha1 := (kn_all hk hle).1
        have ha2 := (kn_all hk hle).2
        have hr := rng_ok (n := (t.length : Int)) (by omega) (by omega)
        have hf := rng_fuel (n := (t.length : Int)) (i := 0) (by omega)
        simp (decide := true) only [EV, List.length_map, hr, hf]
        rw [rng_map, Int.toNat_natCast, comp_mapg (f := fun (j : Nat) => PyData.int (((L.lookup j).getD 0 : Nat) : Int)) (fun (j : Nat) => PyData.int (0 + (j : Int))) fun j hj => ⟨_, rfl, by
          obtain ⟨x, hx⟩ := ha1 j (List.mem_range.mp hj)
          simp (decide := true) only [EV, Int.zero_add, hls0, hd0, hk_kind, hk_look, hx, Option.map_some, Option.getD_some]⟩]
        simp (decide := true) only [EV, fin_d]
        exact ⟨take_own hn, _, rfl, .inl ⟨_, ha2, rfl⟩⟩

end L2.Pv

set_option Elab.async false
set_option linter.all false
set_option maxRecDepth 100000
namespace L2.Pv
open PySem PySem.Spec PyProof.Rows L2
/-! ### marks -/
inductive Mk where
  | op
  | out
  | num (n : Nat)
  deriving DecidableEq
def Mk.d : Mk → PyData
  | .op => .str "open"
  | .out => .str "out"
  | .num n => .int n
def mkD (l : List Mk) : List PyData := l.map Mk.d
theorem mkD_len {l : List Mk} : (mkD l).length = l.length := List.length_map _
theorem mkD_at {l : List Mk} {n : Nat} (h : n < l.length) : atI (mkD l) (n : Int) = some (l.getD n .op).d := by
  unfold mkD
  rw [getD_at h, atI_nat (by rw [List.length_map]; exact h), List.getElem_map]
theorem mk_eqv (a b : Mk) : PyData.eqv a.d b.d = decide (a = b) := by
  cases a <;> cases b <;> simp [Mk.d, PyData.eqv]
  all_goals first
    | (rw [Bool.eq_iff_iff]; simp only [beq_iff_eq, decide_eq_true_eq]; omega)
    | decide
theorem mk_ne (a b : Mk) : dNe a.d b.d = some (.bool (!decide (a = b))) := by
  cases a <;> cases b <;> first
    | rfl
    | (rw [show (Mk.num _).d = PyData.int _ from rfl, show (Mk.num _).d = PyData.int _ from rfl, v_neI]; simp; omega)
theorem mk_neo (a : Mk) : dNe a.d (.str "open") = some (.bool (!decide (a = .op))) := mk_ne a .op
theorem mk_nex (a : Mk) : dNe a.d (.str "out") = some (.bool (!decide (a = .out))) := mk_ne a .out
theorem mk_nen (a : Mk) (s : Nat) : dNe a.d (.int s) = some (.bool (!decide (a = .num s))) := mk_ne a (.num s)
theorem mk_eq (a b : Mk) : dEq a.d b.d = some (.bool (decide (a = b))) := by
  cases a <;> cases b <;> first
    | rfl
    | (rw [show (Mk.num _).d = PyData.int _ from rfl, show (Mk.num _).d = PyData.int _ from rfl, v_eqI]; simp; omega)
theorem mk_eqo (a : Mk) : dEq a.d (.str "open") = some (.bool (decide (a = .op))) := mk_eq a .op
theorem mk_eqn (a : Mk) (s : Nat) : dEq a.d (.int s) = some (.bool (decide (a = .num s))) := mk_eq a (.num s)
theorem mk_depth (m : Mk) : m.d.depth = 0 := by cases m <;> rfl
theorem mk_plain (m : Mk) : m.d.plain = true := by cases m <;> rfl
theorem mk_nin (a b : Mk) : dNotIn a.d (.list [.str "open", b.d]) = some (.bool (!decide (a = .op ∨ a = b))) := by
  have h : min (PyData.depthAll [PyData.str "open", b.d]) (PyData.depth a.d) ≤ 60 := Nat.le_trans (Nat.min_le_right _ _) (by rw [mk_depth]; omega)
  have e : dInB a.d (.list [.str "open", b.d]) = if min (PyData.depthAll [PyData.str "open", b.d]) (PyData.depth a.d) ≤ 60 ∧ PyData.plainAll [PyData.str "open", b.d] = true ∧ PyData.plain a.d = true then some ([PyData.str "open", b.d].any fun z => PyData.eqv z a.d) else none := by cases a <;> rfl
  have hp : PyData.plainAll [PyData.str "open", b.d] = true := by simp only [PyData.plainAll, mk_plain]; rfl
  unfold dNotIn
  rw [e, if_pos ⟨h, hp, mk_plain a⟩]
  have h2 : ([PyData.str "open", b.d].any fun z => PyData.eqv z a.d) = decide (a = .op ∨ a = b) := by
    rw [show [PyData.str "open", b.d] = [Mk.op, b].map Mk.d from rfl, List.any_map]
    show (PyData.eqv Mk.op.d a.d || (PyData.eqv b.d a.d || false)) = _
    rw [mk_eqv, mk_eqv, Bool.or_false, Bool.eq_iff_iff]
    simp only [Bool.or_eq_true, decide_eq_true_eq]
    constructor
    · rintro (rfl | rfl)
      · exact .inl rfl
      · exact .inr rfl
    · rintro (rfl | rfl)
      · exact .inl rfl
      · exact .inr rfl
  rw [h2]
  rfl
def okO (mk : List Mk) : Mv → Bool
  | .no => true
  | .out => false
  | .to n => decide (mk.getD n .op = .op)
def okE (mk : List Mk) (x : Mk) : Mv → Bool
  | .no => true
  | .out => decide (x = .out)
  | .to n => decide (mk.getD n .op = .op ∨ mk.getD n .op = x)
def openB (r : List Mv) (mk : List Mk) : Bool := r.all (okO mk) && !(r.all isNo)
def endB (r : List Mv) (s : Nat) (mk : List Mk) : Bool := if r.all isNo = true then decide (mk.getD s .op = .num s) else r.all (okE mk (mk.getD s .op))
def okS (t : List (List Mv)) (mk : List Mk) (s : Nat) : Bool := if mk.getD s .op = .op then openB (t.getD s []) mk else endB (t.getD s []) s mk
def okMk (t : List (List Mv)) (mk : List Mk) : Bool := decide (mk.length = t.length) && (List.range t.length).all (okS t mk)
theorem takes_open_eq {k : Nat} {r : List Mv} {mk : List Mk} {S : Sto} (hr : r.length ≤ 4) (h : ∀ n, Mv.to n ∈ r → n < mk.length) : run T (k + 2) "takes_open" [.d (rowD r), .d (.tuple (mkD mk))] S = .ok (.d (.bool (openB r mk))) S := by
  refine R.Sat.eq ?_
  rw [u_takes_open, Sat_end]
  unfold b_takes_open
  have e0 : rowD r = .tuple (r.map Mv.d) := rfl
  have hrest := rest_eq (k := k) (r := r) (S := S) hr
  rw [e0] at hrest ⊢
  simp (decide := true) only [EV]
  unfold openB
  generalize hW : r.all (okO mk) = W
  refine Sat_forO (fun rest Γ S' => S' = S ∧ ∃ a : Option Vl, Γ = [some (.d (.tuple (r.map Mv.d))), some (.d (.tuple (mkD mk))), a] ∧ rest.all (okO mk) = W) ⟨rfl, _, rfl, hW⟩ ?_ ?_
  · rintro m rest Γ S' hm ⟨rfl, a, rfl, hA⟩
    rw [List.all_cons] at hA
    refine ⟨_, rfl, ?_⟩
    cases m with
    | no =>
      simp (decide := true) only [EV, mv_isn']
      exact ⟨rfl, _, rfl, hA⟩
    | out =>
      simp (decide := true) only [EV, mv_isn', mv_eqo, fin_d]
      exact ⟨by rw [← hA]; rfl, take_all⟩
    | to n =>
      have hn := h n hm
      simp (decide := true) only [EV, mv_isn', mv_eqo, Mv.d, eq_int_str, mkD_at hn, mk_neo]
      refine Sat_pick (fun hx => ?_) fun hx => ?_
      · have hx : ¬ mk.getD n .op = .op := by simpa using hx
        have : okO mk (.to n) = false := decide_eq_false hx
        rw [this] at hA
        simp (decide := true) only [EV, fin_d]
        exact ⟨by rw [← hA]; rfl, take_all⟩
      · have hx : mk.getD n .op = .op := by simpa using hx
        have : okO mk (.to n) = true := decide_eq_true hx
        rw [this] at hA
        exact ⟨rfl, _, rfl, hA⟩
  · rintro Γ S' ⟨rfl, a, rfl, hA⟩
    simp (decide := true) only [EV, hrest, fin_d]
    exact ⟨by rw [← hA]; rfl, take_all⟩
theorem takes_end_eq {k s : Nat} {r : List Mv} {mk : List Mk} {S : Sto} (hr : r.length ≤ 4) (hs : s < mk.length) (h : ∀ n, Mv.to n ∈ r → n < mk.length) : run T (k + 2) "takes_end" [.d (rowD r), .d (.int s), .d (.tuple (mkD mk))] S = .ok (.d (.bool (endB r s mk))) S := by
  refine R.Sat.eq ?_
  rw [u_takes_end, Sat_end]
  unfold b_takes_end
  have e0 : rowD r = .tuple (r.map Mv.d) := rfl
  have hrest := rest_eq (k := k) (r := r) (S := S) hr
  rw [e0] at hrest ⊢
  simp (decide := true) only [EV, mkD_at hs, hrest]
  unfold endB
  generalize mk.getD s .op = x
  refine Sat_pickB (fun hz => ?_) fun hz => ?_
  · rw [hz, if_pos rfl]
    simp (decide := true) only [EV, mk_eqn, fin_d]
    exact ⟨rfl, take_all⟩
  rw [hz, if_neg Bool.false_ne_true]
  simp (decide := true) only [EV]
  generalize hW : r.all (okE mk x) = W
  refine Sat_forO (fun rest Γ S' => S' = S ∧ ∃ a : Option Vl, Γ = [some (.d (.tuple (r.map Mv.d))), some (.d (.int s)), some (.d (.tuple (mkD mk))), some (.d x.d), a] ∧ rest.all (okE mk x) = W) ⟨rfl, _, rfl, hW⟩ ?_ ?_
  · rintro m rest Γ S' hm ⟨rfl, a, rfl, hA⟩
    rw [List.all_cons] at hA
    refine ⟨_, rfl, ?_⟩
    cases m with
    | no =>
      simp (decide := true) only [EV, mv_eqo, mv_isn']
      exact ⟨rfl, _, rfl, hA⟩
    | out =>
      simp (decide := true) only [EV, mv_isn', mv_eqo, mk_nex]
      refine Sat_pick (fun hx => ?_) fun hx => ?_
      · have hx : ¬ x = .out := by simpa using hx
        have : okE mk x .out = false := decide_eq_false hx
        rw [this] at hA
        simp (decide := true) only [EV, fin_d]
        exact ⟨by rw [← hA]; rfl, take_all⟩
      · have hx : x = .out := by simpa using hx
        have : okE mk x .out = true := decide_eq_true hx
        rw [this] at hA
        exact ⟨rfl, _, rfl, hA⟩
    | to n =>
      have hn := h n hm
      simp (decide := true) only [EV, mv_isn', mv_eqo, Mv.d, eq_int_str, mkD_at hn, mk_neo]
      refine R.Sat.bind (P := fun b S2 => S2 = S' ∧ b = !(decide (mk.getD n .op = .op ∨ mk.getD n .op = x))) ?_ ?_
      · refine Sat_pick (fun hx => ?_) fun hx => ?_
        · have hx : ¬ mk.getD n .op = .op := by simpa using hx
          simp (decide := true) only [EV, mkD_at hn, mk_ne]
          exact ⟨rfl, by simp only [hx, false_or]⟩
        · have hx : mk.getD n .op = .op := by simpa using hx
          exact ⟨rfl, by rw [decide_eq_true (Or.inl hx)]; rfl⟩
      rintro b S2 ⟨rfl, rfl⟩
      refine Sat_pick (fun hx => ?_) fun hx => ?_
      · have : okE mk x (.to n) = false := by rw [Bool.not_eq_true'] at hx; exact hx
        rw [this] at hA
        simp (decide := true) only [EV, fin_d]
        exact ⟨by rw [← hA]; rfl, take_all⟩
      · have : okE mk x (.to n) = true := by rw [Bool.not_eq_false'] at hx; exact hx
        rw [this] at hA
        exact ⟨rfl, _, rfl, hA⟩
  · rintro Γ S' ⟨rfl, a, rfl, hA⟩
    simp (decide := true) only [EV, fin_d]
    exact ⟨by rw [← hA]; rfl, take_all⟩

theorem row_ok {t : List (List Mv)} {w j : Nat} {mk : List Mk} (h : TabW t w) (hw : w ≤ 4) (hj : j < t.length) (hl : mk.length = t.length) : (t.getD j []).length ≤ 4 ∧ ∀ n, Mv.to n ∈ t.getD j [] → n < mk.length := by
  refine ⟨by rw [getD_at hj, h.w _ (List.getElem_mem hj)]; exact hw, fun n hn => ?_⟩
  rw [hl]
  exact row_mem h hj hn
theorem takes_marks_eq {k w : Nat} {t : List (List Mv)} {mk : List Mk} {S : Sto} (h : TabW t w) (hw : w ≤ 4) : run T (k + 3) "takes_marks" [.d (tabD t), .d (.tuple (mkD mk))] S = .ok (.d (.bool (okMk t mk))) S := by
  refine R.Sat.eq ?_
  rw [u_takes_marks, Sat_end]
  unfold b_takes_marks tabD
  simp (decide := true) only [EV, List.length_map, mkD_len]
  unfold okMk
  by_cases hl : mk.length = t.length
  · rw [decide_eq_true hl, Bool.true_and]
    rw [show decide ((mk.length : Int) = (t.length : Int)) = true from decide_eq_true (by omega)]
    simp (decide := true) only [EV, enum_rows]
    generalize hW : (List.range t.length).all (okS t mk) = W
    refine Sat_forO (fun rest Γ S' => S' = S ∧ ∃ a b : Option Vl, Γ = [some (.d (.tuple (t.map rowD))), some (.d (.tuple (mkD mk))), a, b] ∧ rest.all (okS t mk) = W) ⟨rfl, _, _, rfl, hW⟩ ?_ ?_
    · rintro j rest Γ S' hj ⟨rfl, a, b, rfl, hA⟩
      have hj := List.mem_range.mp hj
      have hjm : j < mk.length := by omega
      obtain ⟨hr1, hr2⟩ := row_ok h hw hj hl
      rw [List.all_cons] at hA
      refine ⟨_, rfl, ?_⟩
      simp (decide := true) only [EV, mkD_at hjm, mk_eqo]
      refine Sat_pick (fun hx => ?_) fun hx => ?_
      · have hx := of_decide_eq_true hx
        have e : okS t mk j = openB (t.getD j []) mk := if_pos hx
        rw [e] at hA
        simp (decide := true) only [EV, takes_open_eq hr1 hr2]
        refine Sat_pick (fun hy => ?_) fun hy => ?_
        · rw [Bool.not_eq_true'] at hy
          rw [hy] at hA
          simp (decide := true) only [EV, fin_d]
          exact ⟨by rw [← hA]; rfl, take_all⟩
        · rw [Bool.not_eq_false'] at hy
          rw [hy] at hA
          exact ⟨rfl, _, _, rfl, hA⟩
      · have hx := of_decide_eq_false hx
        have e : okS t mk j = endB (t.getD j []) j mk := if_neg hx
        rw [e] at hA
        simp (decide := true) only [EV, takes_end_eq hr1 hjm hr2]
        refine Sat_pick (fun hy => ?_) fun hy => ?_
        · rw [Bool.not_eq_true'] at hy
          rw [hy] at hA
          simp (decide := true) only [EV, fin_d]
          exact ⟨by rw [← hA]; rfl, take_all⟩
        · rw [Bool.not_eq_false'] at hy
          rw [hy] at hA
          exact ⟨rfl, _, _, rfl, hA⟩
    · rintro Γ S' ⟨rfl, a, b, rfl, hA⟩
      simp (decide := true) only [EV, fin_d]
      exact ⟨by rw [← hA]; rfl, take_all⟩
  · rw [decide_eq_false hl, Bool.false_and]
    rw [show decide ((mk.length : Int) = (t.length : Int)) = false from decide_eq_false (by omega)]
    simp (decide := true) only [EV, fin_d]
    exact ⟨rfl, take_all⟩
/-! ### the law's own judge -/
def yes (r : List Mv) : List Mv := r.filter fun m => !isNo m
theorem yes_nil {r : List Mv} : (yes r).length = 0 ↔ r.all isNo = true := by
  have := filt_no r
  unfold yes
  rw [← this, decide_eq_true_eq]
  omega
theorem yes_all {r : List Mv} {P : Mv → Bool} (h : P .no = true) : (yes r).all P = r.all P := by
  unfold yes
  induction r with
  | nil => rfl
  | cons a r ih =>
    rw [List.filter_cons, List.all_cons]
    cases a with
    | no => rw [h, Bool.true_and]; exact ih
    | out => show (_ :: _).all P = _; rw [List.all_cons, ih]
    | to n => show (_ :: _).all P = _; rw [List.all_cons, ih]
theorem yes_mem {r : List Mv} {m : Mv} (h : m ∈ yes r) : m ∈ r ∧ m ≠ .no := by
  obtain ⟨h1, h2⟩ := List.mem_filter.mp h
  refine ⟨h1, fun z => ?_⟩
  rw [z] at h2
  cases h2
theorem yes_len {r : List Mv} : (yes r).length ≤ r.length := List.length_filter_le _ _
theorem bad_open {r : List Mv} {mk : List Mk} : openB r mk = !(decide ((yes r).length = 0) || decide (0 < ((yes r).filter fun m => !okO mk m).length)) := by
  unfold openB
  rw [← yes_all (r := r) (P := okO mk) rfl, Bool.not_or, Bool.and_comm]
  congr 1
  · congr 1
    rw [Bool.eq_iff_iff, decide_eq_true_eq]
    exact yes_nil.symm
  · rw [Bool.eq_iff_iff, Bool.not_eq_true', decide_eq_false_iff_not, Nat.not_lt, Nat.le_zero, List.length_eq_zero_iff, List.filter_eq_nil_iff, List.all_eq_true]
    refine forall_congr' fun m => forall_congr' fun _ => ?_
    cases okO mk m <;> simp

end L2.Pv

set_option Elab.async false
set_option linter.all false
set_option maxRecDepth 100000
namespace L2.Pv
open PySem PySem.Spec PyProof.Rows L2
/-- the moves of one pass: state, calls, effective, rejected -/
def mm (t : List (List Mv)) : List Nat → Nat → Nat → Bool → Nat × Nat × Bool × Bool
  | [], s, c, e => (s, c, e, false)
  | p :: r, s, c, e => match mvAt t s p with
    | .out => (s, c + 1, e, true)
    | .no => mm t r s (c + 1) e
    | .to n => mm t r n (c + 1) true
theorem mm_out {t : List (List Mv)} {p : Nat} {r : List Nat} {s c : Nat} {e : Bool} (h : mvAt t s p = .out) : mm t (p :: r) s c e = (s, c + 1, e, true) := by unfold mm; rw [h]
theorem mm_no {t : List (List Mv)} {p : Nat} {r : List Nat} {s c : Nat} {e : Bool} (h : mvAt t s p = .no) : mm t (p :: r) s c e = mm t r s (c + 1) e := by
  rw [mm]
  rw [h]
theorem mm_to {t : List (List Mv)} {p n : Nat} {r : List Nat} {s c : Nat} {e : Bool} (h : mvAt t s p = .to n) : mm t (p :: r) s c e = mm t r n (c + 1) true := by
  rw [mm]
  rw [h]
def resD (r : Nat × Nat × Bool × Bool) : PyData := .tuple [.int r.1, .int r.2.1, .bool r.2.2.1, .bool r.2.2.2]
/-- the state stays within -/
theorem mm_lt {t : List (List Mv)} {w : Nat} (h : TabW t w) : ∀ (ps : List Nat) (s c : Nat) (e : Bool), s < t.length → (∀ p ∈ ps, p < w) → (mm t ps s c e).1 < t.length
  | [], s, c, e, hs, _ => hs
  | p :: r, s, c, e, hs, hp => by
    have hpw := hp p List.mem_cons_self
    have hr := fun q hq => hp q (List.mem_cons_of_mem _ hq)
    cases hm : mvAt t s p with
    | out => rw [mm_out hm]; exact hs
    | no => rw [mm_no hm]; exact mm_lt h r s _ _ hs hr
    | to n => rw [mm_to hm]; exact mm_lt h r n _ _ (mv_to h hs hpw hm) hr
/-- a pass: all moves in order -/
def pas (t : List (List Mv)) (w s : Nat) : Nat × Nat × Bool × Bool := mm t (List.range w) s 0 false
/-- the end of the round: .no if it goes on -/
def rnd (t : List (List Mv)) (w : Nat) : Nat → Nat → Mv
  | 0, _ => .no
  | n + 1, s => if (pas t w s).2.2.2 = true then .out else if (pas t w s).2.2.1 = true then rnd t w n (pas t w s).1 else .to (pas t w s).1
def Stp (t : List (List Mv)) (w x y : Nat) : Prop := (pas t w x).2.2.2 = false ∧ (pas t w x).2.2.1 = true ∧ (pas t w x).1 = y
theorem rnd_cyc {t : List (List Mv)} {w : Nat} {met : List Nat} (hc : ∀ x ∈ met, ∃ y, Stp t w x y ∧ y ∈ met) : ∀ (n x : Nat), x ∈ met → rnd t w n x = .no
  | 0, _, _ => rfl
  | n + 1, x, hx => by
    obtain ⟨y, ⟨h1, h2, h3⟩, hy⟩ := hc x hx
    rw [rnd, h1, h2, h3, if_neg Bool.false_ne_true, if_pos rfl]
    exact rnd_cyc hc n y hy
theorem pas_lt {t : List (List Mv)} {w s : Nat} (h : TabW t w) (hs : s < t.length) : (pas t w s).1 < t.length := mm_lt h _ _ _ _ hs fun p hp => List.mem_range.mp hp
theorem to_ne (met : List Nat) : ∀ x ∈ met.map Mv.to, x ≠ .no := fun x hx => by
  obtain ⟨n, _, rfl⟩ := List.mem_map.mp hx
  exact fun z => nomatch z
theorem to_mem {met : List Nat} {s : Nat} : Mv.to s ∈ met.map Mv.to ↔ s ∈ met := by
  constructor
  · intro h
    obtain ⟨n, hn, e⟩ := List.mem_map.mp h
    cases e
    exact hn
  · exact fun h => List.mem_map_of_mem h
/-! ### the law's own round -/
def rndD (t : List (List Mv)) (w : Nat) : PyData := .tuple ((List.range t.length).map fun j => (rnd t w (t.length + 1) j).d)
/-- each move from a state goes where its own round ends so -/
def oneM (t : List (List Mv)) (w k : Nat) : Mv → Bool
  | .no => true
  | .out => decide (rnd t w (t.length + 1) k = .out)
  | .to n => decide (rnd t w (t.length + 1) n = rnd t w (t.length + 1) k)
def oneB (t : List (List Mv)) (w : Nat) : Bool := (List.range t.length).all fun k => (t.getD k []).all (oneM t w k)
theorem mv_ned (a b : Mv) : dNe a.d b.d = some (.bool (!decide (a = b))) := by
  have e := mv_eqv a b
  cases a <;> cases b <;> (show some (PyData.bool (!PyData.eqv _ _)) = _; rw [← e]; try rfl)
theorem rnd_at {t : List (List Mv)} {w n : Nat} (h : n < t.length) : atI ((List.range t.length).map fun j => (rnd t w (t.length + 1) j).d) (n : Int) = some (rnd t w (t.length + 1) n).d := by
  rw [atI_nat (by rw [List.length_map, List.length_range]; exact h), List.getElem_map, List.getElem_range]
theorem bfs_pre {t : List (List Mv)} : ∀ (n k : Nat) {fs : List Wy}, ∃ more, bfs t n k fs = fs ++ more
  | 0, k, fs => ⟨[], (List.append_nil _).symm⟩
  | n + 1, k, fs => by
    by_cases hk : k < fs.length
    · rw [bfs_step hk]
      obtain ⟨a, ha⟩ := pushes_pre (sch := fs[k].1) (r := rowOf t fs[k].2) (u := 0) (fs := fs)
      obtain ⟨b, hb⟩ := bfs_pre (t := t) n (k + 1) (fs := pushes fs[k].1 (rowOf t fs[k].2) 0 fs)
      exact ⟨a ++ b, by rw [hb, ha, List.append_assoc]⟩
    · rw [bfs_stop (by omega)]
      exact ⟨[], (List.append_nil _).symm⟩
/-! ### what is reached -/
def In (t : List (List Mv)) (s : Nat) (m : Mv) : Prop := m ∈ (found t s).map (·.2)
theorem push_has {sch : List Nat} {fs : List Wy} {u : Nat} {m : Mv} (h : m ≠ .no) : m ∈ (push sch fs u m).map (·.2) := by
  by_cases h2 : m ∈ fs.map (·.2)
  · rw [push_no (.inr h2)]; exact h2
  · rw [push_in h h2]
    exact List.mem_map.mpr ⟨(sch ++ [u], m), List.mem_append_right _ (List.mem_singleton.mpr rfl), rfl⟩
theorem pushes_has {sch : List Nat} : ∀ {r : List Mv} {u : Nat} {fs : List Wy} {m : Mv}, m ∈ r → m ≠ .no → m ∈ (pushes sch r u fs).map (·.2)
  | [], _, _, _, h, _ => absurd h List.not_mem_nil
  | a :: r, u, fs, m, h, h0 => by
    rcases List.mem_cons.mp h with rfl | h
    · obtain ⟨more, e⟩ := pushes_pre (sch := sch) (r := r) (u := u + 1) (fs := push sch fs u m)
      show m ∈ (pushes sch r (u + 1) (push sch fs u m)).map (·.2)
      rw [e, List.map_append]
      exact List.mem_append_left _ (push_has h0)
    · exact pushes_has (r := r) (u := u + 1) h h0
def Cl (t : List (List Mv)) (k : Nat) (fs : List Wy) : Prop := ∀ (i : Nat) (p : Wy), i < k → fs[i]? = some p → ∀ m ∈ rowOf t p.2, m ≠ .no → m ∈ fs.map (·.2)
theorem cl_all {t : List (List Mv)} {k : Nat} {fs : List Wy} (h : Cl t k fs) (hl : fs.length ≤ k) : ∀ p ∈ fs, ∀ m ∈ rowOf t p.2, m ≠ .no → m ∈ fs.map (·.2) := fun p hp => by
  obtain ⟨i, hi, e⟩ := List.mem_iff_getElem.mp hp
  exact h i p (by omega) (by rw [List.getElem?_eq_getElem hi, e])
theorem bfs_closed {t : List (List Mv)} {w : Nat} (hT : TabW t w) : ∀ (n k : Nat) {fs : List Wy}, WkOk t fs → t.length + 1 ≤ n + k → Cl t k fs → ∀ p ∈ bfs t n k fs, ∀ m ∈ rowOf t p.2, m ≠ .no → m ∈ (bfs t n k fs).map (·.2)
  | 0, k, fs, h, hk, hc => cl_all (fs := fs) hc (by have := wk_len h; omega)
  | n + 1, k, fs, h, hk, hc => by
    by_cases hx : k < fs.length
    · rw [bfs_step hx]
      have hto := h.to _ (List.getElem_mem hx)
      have hok : WkOk t (pushes fs[k].1 (rowOf t fs[k].2) 0 fs) := pushes_ok h (h.ln _ (List.getElem_mem hx)) (row_of_to hT hto)
      refine bfs_closed hT n (k + 1) hok (by omega) fun i p hi hp m hm h0 => ?_
      obtain ⟨more, e⟩ := pushes_pre (sch := fs[k].1) (r := rowOf t fs[k].2) (u := 0) (fs := fs)
      by_cases hik : i < k
      · rw [e] at hp ⊢
        rw [List.getElem?_append_left (by omega)] at hp
        rw [List.map_append]
        exact List.mem_append_left _ (hc i p hik hp m hm h0)
      · have hik : i = k := by omega
        subst hik
        have hp2 : fs[i]? = some p := by rw [e, List.getElem?_append_left hx] at hp; exact hp
        rw [List.getElem?_eq_getElem hx] at hp2
        cases hp2
        exact pushes_has hm h0
    · rw [bfs_stop (by omega)]
      exact cl_all hc (by omega)
theorem found_closed {t : List (List Mv)} {w s : Nat} (hT : TabW t w) (hs : s < t.length) {m m2 : Mv} (h : In t s m) (h2 : m2 ∈ rowOf t m) (h0 : m2 ≠ .no) : In t s m2 := by
  obtain ⟨p, hp, rfl⟩ := List.mem_map.mp h
  exact bfs_closed hT (t.length + 1) 0 (wk_one hs) (Nat.le_refl _) (fun i p hi => absurd hi (Nat.not_lt_zero _)) p hp m2 h2 h0
theorem in_self {t : List (List Mv)} {s : Nat} : In t s (.to s) := by
  obtain ⟨more, e⟩ := bfs_pre (t := t) (t.length + 1) 0 (fs := [([], .to s)])
  unfold In found
  rw [e]
  exact List.mem_cons_self
theorem pushes_ind {Q : Mv → Prop} {sch : List Nat} : ∀ {r : List Mv} {u : Nat} {fs : List Wy}, (∀ p ∈ fs, Q p.2) → (∀ m ∈ r, m ≠ .no → Q m) → ∀ p ∈ pushes sch r u fs, Q p.2
  | [], _, _, h, _ => h
  | a :: r, u, fs, h, hr => pushes_ind (r := r) (u := u + 1) (fs := push sch fs u a) (fun p hp => by
      by_cases ha : a = .no ∨ a ∈ fs.map (·.2)
      · rw [push_no ha] at hp; exact h p hp
      · rw [push_in (fun z => ha (.inl z)) (fun z => ha (.inr z))] at hp
        rcases List.mem_append.mp hp with z | z
        · exact h p z
        · rw [List.mem_singleton.mp z]; exact hr a List.mem_cons_self fun z => ha (.inl z)) fun m hm => hr m (List.mem_cons_of_mem _ hm)
theorem bfs_ind {t : List (List Mv)} {Q : Mv → Prop} (hQ : ∀ m, Q m → ∀ m2 ∈ rowOf t m, m2 ≠ .no → Q m2) : ∀ (n k : Nat) {fs : List Wy}, (∀ p ∈ fs, Q p.2) → ∀ p ∈ bfs t n k fs, Q p.2
  | 0, _, _, h => h
  | n + 1, k, fs, h => by
    by_cases hx : k < fs.length
    · rw [bfs_step hx]
      exact bfs_ind hQ n (k + 1) (pushes_ind h (hQ _ (h _ (List.getElem_mem hx))))
    · rw [bfs_stop (by omega)]
      exact h
theorem in_ind {t : List (List Mv)} {s : Nat} {Q : Mv → Prop} (h0 : Q (.to s)) (hQ : ∀ m, Q m → ∀ m2 ∈ rowOf t m, m2 ≠ .no → Q m2) {m : Mv} (h : In t s m) : Q m := by
  obtain ⟨p, hp, rfl⟩ := List.mem_map.mp h
  exact bfs_ind hQ _ _ (fun p hp => by rw [List.mem_singleton.mp hp]; exact h0) p hp
theorem in_trans {t : List (List Mv)} {w a b : Nat} (hT : TabW t w) (ha : a < t.length) {m : Mv} (h : In t a (.to b)) (h2 : In t b m) : In t a m := in_ind h (fun _ hm _ h2 h0 => found_closed hT ha hm h2 h0) h2
theorem in_lt {t : List (List Mv)} {w a n : Nat} (hT : TabW t w) (ha : a < t.length) (h : In t a (.to n)) : n < t.length := by
  obtain ⟨p, hp, e⟩ := List.mem_map.mp h
  exact (found_ok hT ha).to p hp n e
def Pls (t : List (List Mv)) (s : Nat) (m : Mv) : Prop := ∃ m0, In t s m0 ∧ m ∈ rowOf t m0
theorem mvAt_mem {t : List (List Mv)} {s p : Nat} (h : mvAt t s p ≠ .no) : mvAt t s p ∈ rowOf t (.to s) := by
  show mvAt t s p ∈ t.getD s []
  unfold mvAt at h ⊢
  rw [List.getD_eq_getElem?_getD (l := t.getD s [])] at h ⊢
  cases e : (t.getD s [])[p]? with
  | none => rw [e] at h; exact absurd rfl h
  | some m => exact List.mem_of_getElem? e
theorem mm_in {t : List (List Mv)} {w s0 : Nat} (hT : TabW t w) (h0 : s0 < t.length) : ∀ (ps : List Nat) (s c : Nat) (e : Bool), In t s0 (.to s) → (e = true → Pls t s0 (.to s)) → In t s0 (.to (mm t ps s c e).1) ∧ ((mm t ps s c e).2.2.1 = true → Pls t s0 (.to (mm t ps s c e).1)) ∧ ((mm t ps s c e).2.2.2 = true → In t s0 .out)
  | [], s, c, e, hi, he => ⟨hi, he, fun z => nomatch z⟩
  | p :: r, s, c, e, hi, he => by
    have hm := mvAt_mem (t := t) (s := s) (p := p)
    cases hv : mvAt t s p with
    | out =>
      rw [hv] at hm
      rw [mm_out hv]
      exact ⟨hi, he, fun _ => found_closed hT h0 hi (hm fun z => nomatch z) fun z => nomatch z⟩
    | no => rw [mm_no hv]; exact mm_in hT h0 r s _ _ hi he
    | to n =>
      rw [hv] at hm
      have hm := hm fun z => nomatch z
      rw [mm_to hv]
      exact mm_in hT h0 r n _ _ (found_closed hT h0 hi hm fun z => nomatch z) fun _ => ⟨_, hi, hm⟩
theorem mm_true {t : List (List Mv)} : ∀ (ps : List Nat) (s c : Nat), (mm t ps s c true).2.2.1 = true
  | [], _, _ => rfl
  | p :: r, s, c => by
    cases hv : mvAt t s p with
    | out => rw [mm_out hv]
    | no => rw [mm_no hv]; exact mm_true r s _
    | to n => rw [mm_to hv]; exact mm_true r n _
theorem mm_rest {t : List (List Mv)} : ∀ (ps : List Nat) (s c : Nat), (mm t ps s c false).2.2.1 = false → (mm t ps s c false).2.2.2 = false → (mm t ps s c false).1 = s ∧ ∀ p ∈ ps, mvAt t s p = .no
  | [], _, _, _, _ => ⟨rfl, fun p hp => absurd hp List.not_mem_nil⟩
  | p :: r, s, c, h1, h2 => by
    cases hv : mvAt t s p with
    | out => rw [mm_out hv] at h2; exact nomatch h2
    | no =>
      rw [mm_no hv] at h1 h2 ⊢
      obtain ⟨a, b⟩ := mm_rest r s _ h1 h2
      refine ⟨a, fun q hq => ?_⟩
      rcases List.mem_cons.mp hq with rfl | hq
      · exact hv
      · exact b q hq
    | to n => rw [mm_to hv, mm_true] at h1; exact nomatch h1
theorem mm_stay {t : List (List Mv)} {s : Nat} : ∀ (ps : List Nat) (c : Nat), (∀ p ∈ ps, mvAt t s p = .no) → (mm t ps s c false).1 = s ∧ (mm t ps s c false).2.2.1 = false ∧ (mm t ps s c false).2.2.2 = false
  | [], _, _ => ⟨rfl, rfl, rfl⟩
  | p :: r, c, h => by
    rw [mm_no (h p List.mem_cons_self)]
    exact mm_stay r _ fun q hq => h q (List.mem_cons_of_mem _ hq)
theorem row_rest {t : List (List Mv)} {w s : Nat} (hT : TabW t w) (hs : s < t.length) (h : ∀ p ∈ List.range w, mvAt t s p = .no) : (rowOf t (.to s)).all isNo = true := by
  show (t.getD s []).all isNo = true
  rw [getD_at hs, List.all_eq_true]
  intro m hm
  obtain ⟨i, hi, e⟩ := List.mem_iff_getElem.mp hm
  have hwl : t[s].length = w := hT.w _ (List.getElem_mem hs)
  have := h i (List.mem_range.mpr (by omega))
  unfold mvAt at this
  rw [getD_at hs, getD_at hi, e] at this
  rw [this]
  rfl
theorem rest_row {t : List (List Mv)} {s : Nat} (h : (rowOf t (.to s)).all isNo = true) (p : Nat) : mvAt t s p = .no := by
  apply Classical.byContradiction
  intro hne
  have := List.all_eq_true.mp h _ (mvAt_mem hne)
  rw [isNo_iff] at this
  exact hne (of_decide_eq_true this)
theorem rnd_in {t : List (List Mv)} {w s0 : Nat} (hT : TabW t w) (h0 : s0 < t.length) : ∀ (n s : Nat), In t s0 (.to s) → rnd t w n s ≠ .no → In t s0 (rnd t w n s) ∧ (rowOf t (rnd t w n s)).all isNo = true
  | 0, _, _, h => absurd rfl h
  | n + 1, s, hi, h => by
    have hm := mm_in hT h0 (List.range w) s 0 false hi (fun z => nomatch z)
    have hpas : mm t (List.range w) s 0 false = pas t w s := rfl
    have hre := mm_rest (t := t) (List.range w) s 0
    rw [hpas] at hm hre
    rw [rnd] at h ⊢
    cases h2 : (pas t w s).2.2.2 with
    | true =>
      rw [if_pos rfl]
      exact ⟨hm.2.2 h2, rfl⟩
    | false =>
      rw [h2, if_neg Bool.false_ne_true] at h
      rw [if_neg Bool.false_ne_true]
      cases h1 : (pas t w s).2.2.1 with
      | true =>
        rw [h1, if_pos rfl] at h
        rw [if_pos rfl]
        exact rnd_in hT h0 n _ hm.1 h
      | false =>
        rw [if_neg Bool.false_ne_true]
        obtain ⟨a, b⟩ := hre h1 h2
        have hs := in_lt hT h0 hi
        rw [a]
        exact ⟨hi, row_rest hT hs b⟩
theorem rnd_rest {t : List (List Mv)} {w n s : Nat} (h : (rowOf t (.to s)).all isNo = true) : rnd t w (n + 1) s = .to s := by
  obtain ⟨a, b, c⟩ := mm_stay (t := t) (s := s) (List.range w) 0 fun p _ => rest_row h p
  have hpas : mm t (List.range w) s 0 false = pas t w s := rfl
  rw [hpas] at a b c
  rw [rnd, c, b, a]
  rfl

end L2.Pv

set_option Elab.async false
set_option linter.all false
set_option maxRecDepth 100000
namespace L2.Pv
open PySem PySem.Spec PyProof.Rows L2
/-! ### ranks and fights, in plain -/
theorem best_none {t : List (List Mv)} : ∀ n, bestP t n = none → ∀ s, s < n → backP t s = none
  | 0, _, s, hs => absurd hs (Nat.not_lt_zero _)
  | n + 1, h, s, hs => by
    rw [best_succ] at h
    unfold stepB at h
    cases hb : backP t n with
    | some l =>
      rw [hb] at h
      cases ho : bestP t n with
      | none => rw [ho] at h; cases h
      | some b =>
        rw [ho] at h
        have h : (if l.length < b.2.length then some (n, l) else some b) = none := h
        by_cases hlt : l.length < b.2.length
        · rw [if_pos hlt] at h; cases h
        · rw [if_neg hlt] at h; cases h
    | none =>
      rw [hb] at h
      by_cases e : s = n
      · rw [e]; exact hb
      · exact best_none n h s (by omega)
def NoF (t : List (List Mv)) : Prop := ∀ s, s < t.length → ¬Pls t s (.to s)
theorem noF_of {t : List (List Mv)} (h : bestP t t.length = none) : NoF t := fun s hs ⟨m0, hi, hm⟩ => by
  have hb := best_none _ h s hs
  unfold backP at hb
  rw [Option.map_eq_none_iff, List.find?_eq_none] at hb
  obtain ⟨p, hp, rfl⟩ := List.mem_map.mp hi
  exact hb p hp (decide_eq_true hm)
theorem best_some {t : List (List Mv)} : ∀ (n : Nat) (b : Nat × List Nat), bestP t n = some b → b.1 < n ∧ backP t b.1 = some b.2
  | 0, b, h => by
    have h : (none : Option (Nat × List Nat)) = some b := h
    cases h
  | n + 1, b, h => by
    rw [best_succ] at h
    unfold stepB at h
    cases hb : backP t n with
    | none =>
      rw [hb] at h
      obtain ⟨h1, h2⟩ := best_some n b h
      exact ⟨by omega, h2⟩
    | some l =>
      rw [hb] at h
      cases ho : bestP t n with
      | none =>
        rw [ho] at h
        have h : some (n, l) = some b := h
        cases h
        exact ⟨by show n < n + 1; omega, hb⟩
      | some b0 =>
        rw [ho] at h
        have h : (if l.length < b0.2.length then some (n, l) else some b0) = some b := h
        by_cases hlt : l.length < b0.2.length
        · rw [if_pos hlt] at h
          cases h
          exact ⟨by show n < n + 1; omega, hb⟩
        · rw [if_neg hlt] at h
          cases h
          obtain ⟨h1, h2⟩ := best_some n b ho
          exact ⟨by omega, h2⟩
theorem back_pls {t : List (List Mv)} {s : Nat} {l : List Nat} (h : backP t s = some l) : Pls t s (.to s) := by
  unfold backP at h
  obtain ⟨p, hp, rfl⟩ := Option.map_eq_some_iff.mp h
  have hh := List.find?_some hp
  exact ⟨p.2, List.mem_map_of_mem (List.mem_of_find?_eq_some hp), of_decide_eq_true hh⟩
theorem best_noF {t : List (List Mv)} (h : NoF t) : bestP t t.length = none := by
  cases e : bestP t t.length with
  | none => rfl
  | some b =>
    obtain ⟨h1, h2⟩ := best_some _ b e
    exact absurd (back_pls h2) (h b.1 h1)
theorem endless_aux {t : List (List Mv)} {w : Nat} {U : Nat → Prop} (hT : TabW t w) (hF : NoF t) (hU : ∀ s, U s → s < t.length ∧ ∃ n, Mv.to n ∈ t.getD s [] ∧ U n) : ∀ (n s : Nat) (met : List Nat), U s → met.Nodup → (∀ x ∈ met, x < t.length ∧ Pls t x (.to s)) → n + met.length = t.length + 1 → False
  | 0, s, met, _, hnd, hm, hl => by
    have := nodup_le (l := met) (m := List.range t.length) hnd fun x hx => List.mem_range.mpr (hm x hx).1
    rw [List.length_range] at this
    omega
  | n + 1, s, met, hs, hnd, hm, hl => by
    obtain ⟨hsl, q, hq, hUq⟩ := hU s hs
    have hx : s ∉ met := fun hx => hF s hsl (hm s hx).2
    have hq : Mv.to q ∈ rowOf t (.to s) := hq
    refine endless_aux hT hF hU n q (met ++ [s]) hUq ?_ (fun x hx3 => ?_) (by rw [List.length_append, List.length_singleton]; omega)
    · rw [List.nodup_append]
      exact ⟨hnd, by simp, fun a ha b hb e => by rw [List.mem_singleton.mp hb] at e; exact hx (e ▸ ha)⟩
    · rcases List.mem_append.mp hx3 with z | z
      · obtain ⟨hxl, m0, hi, hr⟩ := hm x z
        exact ⟨hxl, .to s, (found_closed hT hxl hi hr fun z => nomatch z), hq⟩
      · rw [List.mem_singleton.mp z]
        exact ⟨hsl, .to s, in_self, hq⟩
theorem endless_fight {t : List (List Mv)} {w : Nat} {U : Nat → Prop} (hT : TabW t w) (h : Endless t U) : ¬NoF t := fun hF => by
  obtain ⟨⟨s, hs⟩, hU⟩ := h
  exact endless_aux hT hF hU _ s [] hs List.nodup_nil (fun x hx => absurd hx List.not_mem_nil) rfl
/-- ranks that are taken leave no fight -/
theorem ok_row {t : List (List Mv)} {rk : List Int} (h : okT t rk = true) {s : Nat} (hs : s < t.length) {m : Mv} (hm : m ∈ t.getD s []) : okM rk s m = true := by
  unfold okT at h
  have h := (Bool.and_eq_true _ _ ▸ h : _ ∧ _).2
  exact List.all_eq_true.mp (List.all_eq_true.mp h s (List.mem_range.mpr hs)) m hm
theorem ok_noF {t : List (List Mv)} {w : Nat} {rk : List Int} (hT : TabW t w) (h : okT t rk = true) : NoF t := fun s hs ⟨m0, hi, hm⟩ => by
  have hq := in_ind (Q := fun m => ∀ n, m = .to n → n < t.length ∧ rk.getD n 0 ≤ rk.getD s 0) (fun n e => by cases e; exact ⟨hs, Int.le_refl _⟩) (fun m hm m2 h2 h0 n e => by
    subst e
    cases m with
    | no => exact absurd h2 List.not_mem_nil
    | out => exact absurd h2 List.not_mem_nil
    | to k =>
      obtain ⟨hk, hkr⟩ := hm k rfl
      have h2 : Mv.to n ∈ t.getD k [] := h2
      have h3 : rk.getD n 0 < rk.getD k 0 := of_decide_eq_true (ok_row h hk h2)
      rw [getD_at hk] at h2
      exact ⟨hT.to _ (List.getElem_mem hk) n h2, by omega⟩) hi
  cases m0 with
  | no => exact absurd hm List.not_mem_nil
  | out => exact absurd hm List.not_mem_nil
  | to k =>
    obtain ⟨hk, hkr⟩ := hq k rfl
    have h3 : rk.getD s 0 < rk.getD k 0 := of_decide_eq_true (ok_row h hk hm)
    omega
theorem allH_noF {t : List (List Mv)} {w : Nat} {u : Nat → Nat} (hT : TabW t w) (h : AllH t u) : NoF t := fun s hs ⟨m0, hi, hm⟩ => by
  have hv := allH_valid hT h
  have hq := in_ind (Q := fun m => ∀ n, m = .to n → n < t.length ∧ u n ≤ u s) (fun n e => by cases e; exact ⟨hs, Nat.le_refl _⟩) (fun m hm m2 h2 h0 n e => by
    subst e
    cases m with
    | no => exact absurd h2 List.not_mem_nil
    | out => exact absurd h2 List.not_mem_nil
    | to k =>
      obtain ⟨hk, hkr⟩ := hm k rfl
      have h2 : Mv.to n ∈ t.getD k [] := h2
      have h3 := (hv k hk).2 n h2
      rw [getD_at hk] at h2
      exact ⟨hT.to _ (List.getElem_mem hk) n h2, by omega⟩) hi
  cases m0 with
  | no => exact absurd hm List.not_mem_nil
  | out => exact absurd hm List.not_mem_nil
  | to k =>
    obtain ⟨hk, hkr⟩ := hq k rfl
    have h3 := (hv k hk).2 s hm
    omega
/-- no height is greater than a rank that is taken -/
theorem hg_rank {t : List (List Mv)} {w : Nat} {rk : List Int} (hT : TabW t w) (h : okT t rk = true) (h0 : ∀ s, s < t.length → 0 ≤ rk.getD s 0) : ∀ (f s x : Nat), s < t.length → hg t f s = some x → (x : Int) ≤ rk.getD s 0
  | 0, s, x, _, e => by
    have e : (none : Option Nat) = some x := e
    cases e
  | f + 1, s, x, hs, e => by
    have e : rowH (hg t f) (t.getD s []) 0 = some x := e
    rcases rowH_cases _ _ _ e with hz | ⟨ho, hz⟩ | ⟨n, y, hn, hy, hz⟩
    · rw [hz]; exact h0 s hs
    · have : 1 ≤ rk.getD s 0 := of_decide_eq_true (ok_row h hs ho)
      rw [hz]; exact this
    · have h3 : rk.getD n 0 < rk.getD s 0 := of_decide_eq_true (ok_row h hs hn)
      have hnl : n < t.length := by
        rw [getD_at hs] at hn
        exact hT.to _ (List.getElem_mem hs) n hn
      have := hg_rank hT h h0 f n y hnl hy
      omega

end L2.Pv

set_option Elab.async false
set_option linter.all false
set_option maxRecDepth 100000
namespace L2.Pv
open PySem PySem.Spec PyProof.Rows L2
/-! ### where a schedule leads -/
def led (t : List (List Mv)) : Mv → List Nat → Mv
  | m, [] => m
  | .to s, u :: r => led t (mvAt t s u) r
  | .out, _ :: _ => .no
  | .no, _ :: _ => .no
theorem led_no (t : List (List Mv)) (l : List Nat) : led t .no l = .no := by cases l <;> rfl
theorem led_snoc {t : List (List Mv)} {u q : Nat} : ∀ (l : List Nat) (m : Mv), led t m l = .to q → led t m (l ++ [u]) = mvAt t q u
  | [], m, h => by
    have h : m = .to q := h
    rw [h]
    rfl
  | a :: r, m, h => by
    cases m with
    | no => exact nomatch h
    | out => exact nomatch h
    | to s => exact led_snoc r _ h
theorem wy_push {Q : Wy → Prop} {sch : List Nat} : ∀ {r : List Mv} {u : Nat} {fs : List Wy}, (∀ p ∈ fs, Q p) → (∀ i m, r[i]? = some m → m ≠ .no → Q (sch ++ [u + i], m)) → ∀ p ∈ pushes sch r u fs, Q p
  | [], _, _, h, _ => h
  | a :: r, u, fs, h, hr => wy_push (r := r) (u := u + 1) (fs := push sch fs u a) (fun p hp => by
      by_cases ha : a = .no ∨ a ∈ fs.map (·.2)
      · rw [push_no ha] at hp; exact h p hp
      · rw [push_in (fun z => ha (.inl z)) (fun z => ha (.inr z))] at hp
        rcases List.mem_append.mp hp with z | z
        · exact h p z
        · rw [List.mem_singleton.mp z]
          exact hr 0 a rfl fun z => ha (.inl z)) fun i m hm h0 => by
      have := hr (i + 1) m hm h0
      rw [show u + (i + 1) = u + 1 + i by omega] at this
      exact this
theorem wy_ind {t : List (List Mv)} {Q : Wy → Prop} (hQ : ∀ p, Q p → ∀ i m, (rowOf t p.2)[i]? = some m → m ≠ .no → Q (p.1 ++ [i], m)) : ∀ (n k : Nat) {fs : List Wy}, (∀ p ∈ fs, Q p) → ∀ p ∈ bfs t n k fs, Q p
  | 0, _, _, h => h
  | n + 1, k, fs, h => by
    by_cases hx : k < fs.length
    · rw [bfs_step hx]
      refine wy_ind hQ n (k + 1) (wy_push h fun i m hm h0 => ?_)
      rw [Nat.zero_add]
      exact hQ _ (h _ (List.getElem_mem hx)) i m hm h0
    · rw [bfs_stop (by omega)]
      exact h
/-- the schedules of what is reached lead there, by moves of the table -/
theorem found_led {t : List (List Mv)} {w s : Nat} (hT : TabW t w) (hs : s < t.length) : ∀ p ∈ found t s, led t (.to s) p.1 = p.2 ∧ (∀ u ∈ p.1, u < w) ∧ ∀ n, p.2 = .to n → n < t.length := by
  refine wy_ind (Q := fun p => led t (.to s) p.1 = p.2 ∧ (∀ u ∈ p.1, u < w) ∧ ∀ n, p.2 = .to n → n < t.length) (fun p ⟨h1, h2, h3⟩ i m hm h0 => ?_) _ _ fun p hp => by
    rw [List.mem_singleton.mp hp]
    exact ⟨rfl, fun u hu => absurd hu List.not_mem_nil, fun n e => by cases e; exact hs⟩
  cases hp : p.2 with
  | no => rw [hp] at hm; exact absurd (List.mem_of_getElem? hm) List.not_mem_nil
  | out => rw [hp] at hm; exact absurd (List.mem_of_getElem? hm) List.not_mem_nil
  | to q =>
    have hq := h3 q hp
    rw [hp] at hm h1
    have hm : (t.getD q [])[i]? = some m := hm
    rw [getD_at hq] at hm
    have hwl : t[q].length = w := hT.w _ (List.getElem_mem hq)
    obtain ⟨hi, e⟩ := List.getElem?_eq_some_iff.mp hm
    refine ⟨?_, fun u hu => ?_, fun n en => ?_⟩
    · show led t (.to s) (p.1 ++ [i]) = m
      rw [led_snoc _ _ h1]
      unfold mvAt
      rw [getD_at hq, getD_at hi, e]
    · rcases List.mem_append.mp hu with z | z
      · exact h2 u z
      · rw [List.mem_singleton.mp z]; omega
    · have en : m = .to n := en
      exact hT.to _ (List.getElem_mem hq) n (by rw [← en, ← e]; exact List.getElem_mem _)
theorem led_to_eq {k w s : Nat} {t : List (List Mv)} {l : List Nat} {S : Sto} (h : TabW t w) (hw : w ≤ 4) (hs : s < t.length) (hl : ∀ u ∈ l, u < w) (hll : l.length ≤ 1000) : run T (k + 1) "_law_led_to" [.d (tabD t), .d (.int s), .d (natsD l)] S = .ok (.d (led t (.to s) l).d) S := by
  refine R.Sat.eq ?_
  rw [u_law_led_to, Sat_end]
  unfold b_law_led_to
  have h0 : 0 < t.length := by omega
  have g0 : ∀ S', gIx (.d (tabD t)) (.d (.int 0)) S' = .ok (.d (rowD t[0])) S' := fun S' => by unfold tabD; rw [v_ixT, show (0 : Int) = ((0 : Nat) : Int) from rfl, row_at h h0]; rfl
  have hwl : t[0].length = w := h.w _ (List.getElem_mem h0)
  have g2 : ∀ S', gLen (.d (rowD t[0])) S' = .ok (.d (.int (w : Nat))) S' := fun S' => by unfold rowD; rw [v_lenT, List.length_map, hwl]
  have hfu : decide (fuelOf (.its (l.map fun (x : Nat) => PyData.int x)) ≤ SZ) = true := decide_eq_true (by show (l.map fun (x : Nat) => PyData.int x).length + 1 ≤ 16777216; rw [List.length_map]; omega)
  have en : natsD l = .tuple (l.map fun (x : Nat) => .int x) := rfl
  simp (decide := true) only [EV, en, hfu]
  refine Sat_forO (all := l) (g := fun (x : Nat) => .int x) (fun rest Γ S' => ∃ (m : Mv) (a : Option Vl), m ≠ .no ∧ (∀ n, m = .to n → n < t.length) ∧ led t m rest = led t (.to s) l ∧ S' = S ∧ Γ = [some (.d (tabD t)), some (.d m.d), some (.d (.tuple (l.map fun (x : Nat) => .int x))), a]) ⟨.to s, _, (fun z => nomatch z), (fun n e => by cases e; exact hs), rfl, rfl, rfl⟩ ?_ ?_
  · rintro u rest Γ S' hu ⟨m, a, hm, hml, hled, rfl, rfl⟩
    have huw := hl u hu
    refine ⟨_, rfl, ?_⟩
    cases m with
    | no => exact absurd rfl hm
    | out =>
      have hled : Mv.no = led t (.to s) l := hled
      simp (decide := true) only [EV, mv_eqo, show decide (Mv.out = Mv.out) = true from rfl, fin_d]
      rw [← hled]
      exact ⟨rfl, take_all⟩
    | to q =>
      have hq := hml q rfl
      have hled : led t (mvAt t q u) rest = led t (.to s) l := hled
      obtain ⟨i1, i2⟩ := mv_ix h hq huw
      have g3 : ∀ S', gIx (.d (tabD t)) (.d (Mv.to q).d) S' = .ok (.d (rowD t[q])) S' := fun S' => by unfold tabD; show gIx _ (.d (.int (q : Nat))) S' = _; rw [v_ixT, i1]; rfl
      have g4 : ∀ S', gIx (.d (rowD t[q])) (.d (.int (u : Int))) S' = .ok (.d (mvAt t q u).d) S' := fun S' => by unfold rowD; rw [v_ixT, i2]; rfl
      have hlt : decide ((u : Int) < (w : Int)) = true := decide_eq_true (by omega)
      have hge : decide ((0 : Int) ≤ (u : Int)) = true := decide_eq_true (by omega)
      simp (decide := true) only [EV, mv_eqo, isi_tab, show decide (Mv.to q = Mv.out) = false from rfl, g0, g2, hlt, hge, g3, g4, mv_is]
      cases hv : mvAt t q u with
      | no =>
        rw [hv, led_no] at hled
        simp (decide := true) only [EV, mv_is, show isNo .no = true from rfl, fin_d]
        rw [← hled]
        exact ⟨rfl, take_all⟩
      | out =>
        rw [hv] at hled
        simp (decide := true) only [EV, mv_is, show isNo .out = false from rfl]
        exact ⟨.out, _, (fun z => nomatch z), (fun n z => nomatch z), hled, rfl, rfl⟩
      | to n =>
        rw [hv] at hled
        simp (decide := true) only [EV, mv_is, show isNo (.to n) = false from rfl]
        exact ⟨.to n, _, (fun z => nomatch z), (fun n2 z => by cases z; exact mv_to h hq huw hv), hled, rfl, rfl⟩
  · rintro Γ S' ⟨m, a, hm, hml, hled, rfl, rfl⟩
    have hled : m = led t (.to s) l := hled
    simp (decide := true) only [EV, fin_d]
    rw [← hled]
    exact ⟨rfl, take_all⟩
theorem filt_no2 (r : List Mv) : dEq (.int ((r.filter fun m => !isNo m).length : Nat)) (.int 0) = some (.bool (r.all isNo)) := by
  rw [← filt_no r]
  show some (PyData.bool (PyData.eqv _ _)) = _
  have : PyData.eqv (.int ((r.filter fun m => !isNo m).length : Nat)) (.int 0) = (((r.filter fun m => !isNo m).length : Int) == 0) := rfl
  rw [this]
  congr 2
def isEnd (t : List (List Mv)) : Mv → Bool
  | .no => false
  | m => (rowOf t m).all isNo
theorem is_end_eq {k w : Nat} {t : List (List Mv)} {m : Mv} {S : Sto} (h : TabW t w) (hw : w ≤ 4) (hm : ∀ n, m = .to n → n < t.length) : run T (k + 1) "_law_is_end" [.d (tabD t), .d m.d] S = .ok (.d (.bool (isEnd t m))) S := by
  rw [u_law_is_end]
  unfold b_law_is_end
  cases m with
  | no => simp (decide := true) only [EV, mv_eqo, mv_isn', show decide (Mv.no = Mv.out) = false from rfl, show isNo .no = true from rfl, fnEnd, fin_d, take_all]; rfl
  | out => simp (decide := true) only [EV, mv_eqo, show decide (Mv.out = Mv.out) = true from rfl, fnEnd, fin_d, take_all]; rfl
  | to q =>
    have hq := hm q rfl
    have hrl : t[q].length = w := h.w _ (List.getElem_mem hq)
    have g3 : ∀ S', gIx (.d (tabD t)) (.d (Mv.to q).d) S' = .ok (.d (.tuple (t[q].map Mv.d))) S' := fun S' => by unfold tabD; show gIx _ (.d (.int (q : Nat))) S' = _; rw [v_ixT, row_at h hq]; rfl
    have hfu : decide (fuelOf (.its (t[q].map Mv.d)) ≤ SZ) = true := decide_eq_true (by show (t[q].map Mv.d).length + 1 ≤ 16777216; rw [List.length_map]; omega)
    have he : isEnd t (.to q) = t[q].all isNo := by
      show (t.getD q []).all isNo = _
      rw [getD_at hq]
    rw [he]
    generalize t[q] = ms at *
    simp (decide := true) only [EV, mv_eqo, mv_isn', show decide (Mv.to q = Mv.out) = false from rfl, show isNo (.to q) = false from rfl, g3, hfu]
    rw [comp_filtg (p := fun m => !isNo m) (f := Mv.d) Mv.d fun m hm => ⟨_, rfl, by simp (decide := true) only [EV, mv_isn'], fun _ => rfl⟩]
    simp (decide := true) only [EV, List.length_map, filt_no2, filt_no, fnEnd, fin_d, take_all]

end L2.Pv

set_option Elab.async false
set_option linter.all false
set_option maxRecDepth 100000
namespace L2.Pv
open PySem PySem.Spec PyProof.Rows L2
theorem mv_eqs (m : Mv) (s : Nat) : dEq m.d (.int (s : Nat)) = some (.bool (decide (m = .to s))) := by
  have e := mv_eqv m (.to s)
  cases m <;> (show some (PyData.bool (PyData.eqv _ _)) = _; rw [← e]; rfl)
theorem ix_get {ms : List Mv} {m : Mv} (h : m ∈ ms) : ∃ hi : ixM ms m < ms.length, ms[ixM ms m] = m := by
  have hi : ixM ms m < ms.length := List.findIdx_lt_length_of_exists ⟨m, h, decide_eq_true rfl⟩
  have e := List.findIdx_getElem (w := hi)
  exact ⟨hi, of_decide_eq_true e⟩
theorem back_led {t : List (List Mv)} {w s : Nat} {l : List Nat} (hT : TabW t w) (hs : s < t.length) (h : backP t s = some l) : led t (.to s) l = .to s ∧ (∀ u ∈ l, u < w) ∧ 0 < l.length := by
  unfold backP at h
  obtain ⟨p, hp, rfl⟩ := Option.map_eq_some_iff.mp h
  have hh0 : hit t s p = true := List.find?_some hp
  have hh : Mv.to s ∈ rowOf t p.2 := of_decide_eq_true hh0
  obtain ⟨h1, h2, h3⟩ := found_led hT hs p (List.mem_of_find?_eq_some hp)
  cases e : p.2 with
  | no => rw [e] at hh; exact absurd hh List.not_mem_nil
  | out => rw [e] at hh; exact absurd hh List.not_mem_nil
  | to q =>
    have hq := h3 q e
    rw [e] at hh h1
    have hr : rowOf t (.to q) = t[q] := getD_at hq
    rw [hr] at hh
    obtain ⟨hi, ei⟩ := ix_get hh
    have hwl : t[q].length = w := hT.w _ (List.getElem_mem hq)
    refine ⟨?_, fun u hu => ?_, ?_⟩
    · show led t (.to s) (p.1 ++ [ixM (rowOf t p.2) (.to s)]) = _
      rw [e, hr, led_snoc _ _ h1]
      unfold mvAt
      rw [getD_at hq, getD_at hi, ei]
    · have hu : u ∈ p.1 ++ [ixM (rowOf t p.2) (.to s)] := hu
      rcases List.mem_append.mp hu with z | z
      · exact h2 u z
      · rw [List.mem_singleton.mp z, e, hr]; omega
    · show 0 < (p.1 ++ [_]).length
      rw [List.length_append, List.length_singleton]
      omega
theorem true_fight_eq {k w s : Nat} {t : List (List Mv)} {l : List Nat} {S : Sto} (h : TabW t w) (hw : w ≤ 4) (hs : s < t.length) (h60 : t.length ≤ 60) (hb : backP t s = some l) : run T (k + 2) "_law_true_fight" [.d (tabD t), .d (bestD (some (s, l)))] S = .ok (.d (.bool true)) S := by
  obtain ⟨h1, h2, h3⟩ := back_led h hs hb
  have hll := back_len h hs h60 hb
  have hlT : ∀ S, gLen (.d (tabD t)) S = .ok (.d (.int (t.length : Nat))) S := fun S => by unfold tabD; rw [v_lenT, List.length_map]
  have hn := fun S => nats_len (l := l) (S := S) (by omega)
  have hi : ∀ S, gIsi "tuple" (.d (natsD l)) S = .ok (.d (.bool true)) S := fun S => rfl
  have e1 : bestD (some (s, l)) = .tuple [.int (s : Nat), natsD l] := rfl
  have hq := led_to_eq (k := k) (S := S) h hw hs h2 (by omega)
  rw [h1] at hq
  have hz : decide ((l.length : Int) = 0) = false := decide_eq_false (by omega)
  have hge : decide ((0 : Int) ≤ (s : Int)) = true := decide_eq_true (by omega)
  have hlt : decide ((s : Int) < (t.length : Int)) = true := decide_eq_true (by omega)
  have hee : dEq (Mv.to s).d (.int (s : Nat)) = some (.bool true) := by rw [mv_eqs, decide_eq_true rfl]
  rw [u_law_true_fight]
  unfold b_law_true_fight
  simp (decide := true) only [EV, e1, isi_tab, hi, hn, hz, hge, hlt, hlT, hq, hee, fnEnd, fin_d, take_all]
/-! ### a way drawn -/
inductive Wk (t : List (List Mv)) (s : Nat) : Nat → Mv → Prop where
  | nil : Wk t s 0 (.to s)
  | cons (n : Nat) (m m2 : Mv) : Wk t s n m → m2 ∈ rowOf t m → m2 ≠ .no → Wk t s (n + 1) m2
theorem wk_in {t : List (List Mv)} {w s : Nat} (hT : TabW t w) (hs : s < t.length) : ∀ {n : Nat} {m : Mv}, Wk t s n m → In t s m := by
  intro n m h
  induction h with
  | nil => exact in_self
  | cons n m m2 _ h2 h0 ih => exact found_closed hT hs ih h2 h0
theorem wk_ne {t : List (List Mv)} {s n : Nat} {m : Mv} (h : Wk t s n m) : m ≠ .no := by
  cases h with
  | nil => exact fun z => nomatch z
  | cons n m m2 _ h2 h0 => exact h0
/-- the rank of what is reached, moves counted -/
def rkOf (rk : List Int) : Mv → Int
  | .to n => rk.getD n 0
  | _ => 0
theorem wk_rank {t : List (List Mv)} {w s : Nat} {rk : List Int} (hT : TabW t w) (h : okT t rk = true) (hs : s < t.length) : ∀ {n : Nat} {m : Mv}, Wk t s n m → (∀ k, m = .to k → k < t.length) ∧ (n : Int) + rkOf rk m ≤ rk.getD s 0 := by
  intro n m hw
  induction hw with
  | nil => exact ⟨fun k e => by cases e; exact hs, by show ((0 : Nat) : Int) + rk.getD s 0 ≤ _; omega⟩
  | cons n m m2 _ h2 h0 ih =>
    cases m with
    | no => exact absurd h2 List.not_mem_nil
    | out => exact absurd h2 List.not_mem_nil
    | to q =>
      obtain ⟨ih1, ih2⟩ := ih
      have hq := ih1 q rfl
      have h2 : m2 ∈ t.getD q [] := h2
      have h3 := ok_row h hq h2
      have ih2 : (n : Int) + rk.getD q 0 ≤ rk.getD s 0 := ih2
      cases m2 with
      | no => exact absurd rfl h0
      | out =>
        have h3 : 1 ≤ rk.getD q 0 := of_decide_eq_true h3
        exact ⟨(fun k e => nomatch e), by show ((n + 1 : Nat) : Int) + 0 ≤ _; omega⟩
      | to k =>
        have h3 : rk.getD k 0 < rk.getD q 0 := of_decide_eq_true h3
        refine ⟨fun k2 e => ?_, by show ((n + 1 : Nat) : Int) + rk.getD k 0 ≤ _; omega⟩
        cases e
        rw [getD_at hq] at h2
        exact hT.to _ (List.getElem_mem hq) k h2

end L2.Pv

set_option Elab.async false
set_option linter.all false
set_option maxRecDepth 100000
namespace L2.Pv
open PySem PySem.Spec PyProof.Rows L2
theorem sat_way {k t w : Nat} {tt : List (List Mv)} {S : Sto} (h : Tp S t) (hT : TabW tt w) (hw : w ≤ 4) (h0 : 0 < tt.length) (h60 : tt.length ≤ 60) : Gen t S (run T (k + 2) "_law_drawn_way" [.o t, .d (tabD tt)] S) fun v => ∃ (s n : Nat) (m : Mv), v = .d (.tuple [.int (s : Nat), .int (n : Nat), m.d]) ∧ s < tt.length ∧ Wk tt s n m := by
  rw [u_law_drawn_way]
  unfold Gen
  rw [Sat_end]
  unfold b_law_drawn_way
  have hlT : ∀ S, gLen (.d (tabD tt)) S = .ok (.d (.int (tt.length : Nat))) S := fun S => by unfold tabD; rw [v_lenT, List.length_map]
  have hr := rng_ok (n := 12) (by decide) (by decide)
  have hf := rng_fuel (n := 12) (i := 0) (by decide)
  simp (decide := true) only [EV, hlT]
  refine Gen.then (Kp.refl h) (sat_draw h (by omega)) fun v S1 ⟨r, e, hr0, hr1⟩ hk => ?_
  subst e
  obtain ⟨s, rfl⟩ := Int.eq_ofNat_of_zero_le hr0
  have hs : s < tt.length := by omega
  try simp (decide := true) only [EV, hr, hf]
  rw [rng_map]
  refine Sat_forC (fun rest Γ S' => Kp t S S' ∧ ∃ (n : Nat) (m : Mv) (a b : Option Vl), Wk tt s n m ∧ n + rest.length ≤ 12 ∧ Γ = [some (.o t), some (.d (tabD tt)), some (.d m.d), some (.d (.int (s : Nat))), some (.d (.int (n : Nat))), a, b, none]) ⟨hk, 0, .to s, _, _, .nil, by simp, rfl⟩ ?_ ?_
  · rintro j rest Γ S' hj ⟨hk, n, m, a, b, hW, hn, rfl⟩
    rw [List.length_cons] at hn
    have hne := wk_ne hW
    have hin := wk_in hT hs hW
    refine ⟨_, rfl, ?_⟩
    simp (decide := true) only [EV, mv_neo]
    refine R.Sat.bind (P := fun fl S2 => S2 = S' ∧ ∃ ms : List Mv, (∀ x ∈ ms, x ∈ rowOf tt m ∧ x ≠ .no) ∧ ms.length ≤ 4 ∧ fl = .nx [some (.o t), some (.d (tabD tt)), some (.d m.d), some (.d (.int (s : Nat))), some (.d (.int (n : Nat))), some (.d (.int (0 + (j : Int)))), some (.d (.list (ms.map Mv.d))), none]) ?_ ?_
    · cases m with
      | no => exact absurd rfl hne
      | out =>
        simp (decide := true) only [EV, show decide (Mv.out = Mv.out) = true from rfl]
        exact ⟨rfl, [], fun x hx => absurd hx List.not_mem_nil, Nat.zero_le _, rfl⟩
      | to q =>
        have hq := in_lt hT hs hin
        have hrl : tt[q].length = w := hT.w _ (List.getElem_mem hq)
        have g3 : ∀ S', gIx (.d (tabD tt)) (.d (Mv.to q).d) S' = .ok (.d (.tuple (tt[q].map Mv.d))) S' := fun S' => by unfold tabD; show gIx _ (.d (.int (q : Nat))) S' = _; rw [v_ixT, row_at hT hq]; rfl
        have hfu : decide (fuelOf (.its (tt[q].map Mv.d)) ≤ SZ) = true := decide_eq_true (by show (tt[q].map Mv.d).length + 1 ≤ 16777216; rw [List.length_map]; omega)
        have hrow : rowOf tt (.to q) = tt[q] := getD_at hq
        rw [hrow]
        generalize tt[q] = ms at *
        simp (decide := true) only [EV, show decide (Mv.to q = Mv.out) = false from rfl, g3, hfu]
        rw [comp_filtg (p := fun m => !isNo m) (f := Mv.d) Mv.d fun m hm => ⟨_, rfl, by simp (decide := true) only [EV, mv_isn'], fun _ => rfl⟩]
        simp (decide := true) only [EV]
        refine ⟨rfl, ms.filter fun m => !isNo m, fun x hx => ?_, ?_, rfl⟩
        · obtain ⟨h1, h2⟩ := List.mem_filter.mp hx
          refine ⟨h1, fun z => ?_⟩
          rw [z] at h2
          exact nomatch h2
        · have := List.length_filter_le (fun m => !isNo m) ms
          omega
    rintro fl S2 ⟨rfl, ms, hms, hml, rfl⟩
    simp (decide := true) only [EV, List.length_map]
    refine Sat_pick (fun hz => ?_) fun hz => ?_
    · have hz : 0 < ms.length := by have := of_decide_eq_true hz; omega
      try simp (decide := true) only [EV, List.length_map]
      refine Gen.then hk (sat_draw hk.tp (by omega)) fun v S3 ⟨r, e, hr0, hr1⟩ hk => ?_
      subst e
      obtain ⟨u, rfl⟩ := Int.eq_ofNat_of_zero_le hr0
      have hu : u < ms.length := by omega
      have i4 : atI (ms.map Mv.d) (u : Int) = some ms[u].d := by rw [atI_nat (by rw [List.length_map]; exact hu), List.getElem_map]
      obtain ⟨hm1, hm2⟩ := hms _ (List.getElem_mem hu)
      simp (decide := true) only [EV, i4]
      exact ⟨hk, n + 1, ms[u], _, _, .cons n m _ hW hm1 hm2, by omega, rfl⟩
    · exact ⟨hk, n, m, _, _, hW, by omega, rfl⟩
  · rintro Γ S' ⟨hk, n, m, a, b, hW, hn, rfl⟩
    simp (decide := true) only [EV, fin_d]
    exact ⟨⟨s, n, m, rfl, hs, hW⟩, by rw [hk.take]; exact hk⟩

end L2.Pv

set_option Elab.async false
set_option linter.all false
set_option maxRecDepth 100000
namespace L2.Pv
open PySem PySem.Spec PyProof.Rows L2
theorem true_conflict_eq {k w s : Nat} {t : List (List Mv)} {p q : Wy} {S : Sto} (h : TabW t w) (hw : w ≤ 4) (hs : s < t.length) (h60 : t.length ≤ 60) (hp : p ∈ ends t s) (hq : q ∈ ends t s) (hpq : p.2 ≠ q.2) : run T (k + 2) "_law_true_conflict" [.d (tabD t), .d (.tuple [.int (s : Nat), wyD p, wyD q])] S = .ok (.d (.bool true)) S := by
  obtain ⟨n, hn⟩ : ∃ n, S.length = n := ⟨_, rfl⟩
  have hlT : ∀ S, gLen (.d (tabD t)) S = .ok (.d (.int (t.length : Nat))) S := fun S => by unfold tabD; rw [v_lenT, List.length_map]
  have hge : decide ((0 : Int) ≤ (s : Int)) = true := decide_eq_true (by omega)
  have hlt : decide ((s : Int) < (t.length : Int)) = true := decide_eq_true (by omega)
  have hall : ∀ x ∈ [p, q], x ∈ ends t s := fun x hx => by
    simp only [List.mem_cons, List.mem_nil_iff, or_false] at hx
    rcases hx with rfl | rfl
    · exact hp
    · exact hq
  refine R.Sat.eq ?_
  rw [u_law_true_conflict, Sat_end]
  unfold b_law_true_conflict
  simp (decide := true) only [EV, isi_tab, hge, hlt, hlT, hn]
  have hsl : (Src.its [wyD p, wyD q]) = .its ([p, q].map wyD) := rfl
  try rw [hsl]
  refine Sat_forO (all := [p, q]) (g := wyD) (fun rest Γ S' => ∃ (d : List Wy) (a : Option Vl), d ++ rest = [p, q] ∧ S' = S ++ [.lst (d.map stD)] ∧ Γ = [some (.d (tabD t)), some (.d (.tuple [.int (s : Nat), wyD p, wyD q])), some (.o n), a]) ⟨[], _, rfl, rfl, rfl⟩ ?_ ?_
  · rintro x rest Γ S' hx ⟨d, a, hd, rfl, rfl⟩
    have hx := hall x hx
    have hdl : d.length ≤ 1 := by
      have := congrArg List.length hd
      rw [List.length_append, List.length_cons] at this
      simp at this
      omega
    obtain ⟨hxf, hxr⟩ := List.mem_filter.mp hx
    obtain ⟨h1, h2, h3⟩ := found_led h hs x hxf
    have hne := (found_ok h hs).no x hxf
    have hln := ((ends_mem h hs h60).1 x hx).1
    have hq := fun S => led_to_eq (k := k) (S := S) h hw hs h2 (by omega)
    rw [h1] at hq
    have he := fun S => is_end_eq (k := k) (S := S) h hw h3
    have hxr : (rowOf t x.2).all isNo = true := hxr
    have hie : isEnd t x.2 = true := by
      cases e : x.2 with
      | no => exact absurd e hne
      | out => rfl
      | to n => rw [e] at hxr; exact hxr
    rw [hie] at he
    have ew : wyD x = .tuple [natsD x.1, x.2.d] := rfl
    have hi : ∀ S, gIsi "tuple" (.d (natsD x.1)) S = .ok (.d (.bool true)) S := fun S => rfl
    have hap : gAppend (.o n) [.d x.2.d] (S ++ [.lst (d.map stD)]) = .ok (.d .none) (S ++ [.lst ((d ++ [x]).map stD)]) := by
      rw [e_append (ws := d.map stD) (by rw [lst_own0 hn]; rfl) (by rw [List.length_map]; show _ < 16777216; omega), set_own0 hn, List.map_append]
      rfl
    have i1 : atI ((d ++ [x]).map stD) (d.length : Int) = some x.2.d := by
      rw [atI_nat (by rw [List.length_map, List.length_append, List.length_singleton]; omega), List.getElem_map, List.getElem_append_right (Nat.le_refl _)]
      simp only [Nat.sub_self, List.getElem_singleton]
      rfl
    have e5 : ((d.length + 1 : Nat) : Int) - 1 = (d.length : Int) := by omega
    have e6 : (d.length : Int) + 1 - 1 = (d.length : Int) := by omega
    have hsm : dNe x.2.d x.2.d = some (.bool false) := by rw [mv_ned, decide_eq_true rfl]; rfl
    refine ⟨_, rfl, ?_⟩
    simp (decide := true) only [EV, ew, isi_tab, hi, hq, hap, lst_own0 hn, List.length_map, List.length_append, List.length_singleton, e5, e6, i1, hsm, he]
    exact ⟨d ++ [x], _, by rw [List.append_assoc]; exact hd, rfl, rfl⟩
  · rintro Γ S' ⟨d, a, hd, rfl, rfl⟩
    rw [List.append_nil] at hd
    subst hd
    have a0 : atI ([p, q].map stD) 0 = some p.2.d := rfl
    have a1 : atI ([p, q].map stD) 1 = some q.2.d := rfl
    have hne : dNe p.2.d q.2.d = some (.bool true) := by rw [mv_ned, decide_eq_false hpq]; rfl
    simp (decide := true) only [EV, lst_own0 hn, a0, a1, hne, fin_d]
    exact ⟨rfl, take_own hn⟩

end L2.Pv

set_option Elab.async false
set_option linter.all false
set_option maxRecDepth 100000
namespace L2.Pv
open PySem PySem.Spec PyProof.Rows L2
/-! ### marks that are taken, in plain -/
def mkE : Mv → Mk
  | .to n => .num n
  | .out => .out
  | .no => .op
theorem mk_row {t : List (List Mv)} {mk : List Mk} (h : okMk t mk = true) {s : Nat} (hs : s < t.length) : okS t mk s = true := by
  unfold okMk at h
  have h := (Bool.and_eq_true _ _ ▸ h : _ ∧ _).2
  exact List.all_eq_true.mp h s (List.mem_range.mpr hs)
theorem mk_in {t : List (List Mv)} {w s : Nat} {mk : List Mk} (hT : TabW t w) (h : okMk t mk = true) (hs : s < t.length) {m : Mv} (hi : In t s m) : (m = .out → mk.getD s .op = .out) ∧ ∀ n, m = .to n → n < t.length ∧ (mk.getD n .op = .op ∨ mk.getD n .op = mk.getD s .op) := by
  refine in_ind (Q := fun m => (m = .out → mk.getD s .op = .out) ∧ ∀ n, m = .to n → n < t.length ∧ (mk.getD n .op = .op ∨ mk.getD n .op = mk.getD s .op)) ⟨(fun z => nomatch z), fun n e => by cases e; exact ⟨hs, .inr rfl⟩⟩ (fun m hm m2 h2 h0 => ?_) hi
  cases m with
  | no => exact absurd h2 List.not_mem_nil
  | out => exact absurd h2 List.not_mem_nil
  | to k =>
    obtain ⟨hk, hmk⟩ := hm.2 k rfl
    have h2 : m2 ∈ t.getD k [] := h2
    have hok := mk_row h hk
    have hlt : ∀ n, m2 = .to n → n < t.length := fun n e => by
      rw [getD_at hk] at h2
      exact hT.to _ (List.getElem_mem hk) n (e ▸ h2)
    unfold okS at hok
    by_cases hop : mk.getD k .op = .op
    · rw [if_pos hop] at hok
      unfold openB at hok
      have h3 := List.all_eq_true.mp (Bool.and_eq_true _ _ ▸ hok : _ ∧ _).1 m2 h2
      refine ⟨fun e => ?_, fun n e => ⟨hlt n e, .inl ?_⟩⟩
      · rw [e] at h3; exact nomatch h3
      · rw [e] at h3; exact of_decide_eq_true h3
    · rw [if_neg hop] at hok
      have hks : mk.getD k .op = mk.getD s .op := hmk.elim (fun z => absurd z hop) id
      unfold endB at hok
      by_cases hall : (t.getD k []).all isNo = true
      · have := List.all_eq_true.mp hall m2 h2
        rw [isNo_iff] at this
        exact absurd (of_decide_eq_true this) h0
      · rw [if_neg hall] at hok
        have h3 := List.all_eq_true.mp hok m2 h2
        refine ⟨fun e => ?_, fun n e => ⟨hlt n e, ?_⟩⟩
        · rw [e] at h3
          rw [← hks]
          exact of_decide_eq_true h3
        · rw [e] at h3
          rw [← hks]
          exact of_decide_eq_true h3
/-- what is reached and is an end is the mark -/
theorem mk_end {t : List (List Mv)} {w s : Nat} {mk : List Mk} (hT : TabW t w) (h : okMk t mk = true) (hs : s < t.length) {m : Mv} (hi : In t s m) (he : isEnd t m = true) : mk.getD s .op = mkE m := by
  obtain ⟨h1, h2⟩ := mk_in hT h hs hi
  cases m with
  | no => exact nomatch he
  | out => exact h1 rfl
  | to n =>
    have he : (t.getD n []).all isNo = true := he
    obtain ⟨hn, hmn⟩ := h2 n rfl
    have hok := mk_row h hn
    unfold okS at hok
    by_cases hop : mk.getD n .op = .op
    · rw [if_pos hop] at hok
      unfold openB at hok
      rw [he, Bool.not_true, Bool.and_false] at hok
      exact nomatch hok
    · rw [if_neg hop] at hok
      unfold endB at hok
      rw [if_pos he] at hok
      have hok := of_decide_eq_true hok
      rcases hmn with z | z
      · exact absurd z hop
      · rw [← z, hok]
        rfl

end L2.Pv

set_option Elab.async false
set_option linter.all false
set_option maxRecDepth 100000
namespace L2.Pv
open PySem PySem.Spec PyProof.Rows L2
theorem con_two {t : List (List Mv)} {n s : Nat} (h : conP t n = some s) : s < n ∧ 1 < (ends t s).length := by
  unfold conP at h
  have h2 : two t s = true := List.find?_some h
  exact ⟨List.mem_range.mp (List.mem_of_find?_eq_some h), of_decide_eq_true h2⟩
theorem ends_apart {t : List (List Mv)} {w s : Nat} (hT : TabW t w) (hs : s < t.length) (h0 : 0 < (ends t s).length) (h1 : 1 < (ends t s).length) : (ends t s)[0].2 ≠ (ends t s)[1].2 := by
  have hnd : ((ends t s).map (·.2)).Nodup := List.Sublist.nodup (List.Sublist.map _ List.filter_sublist) (found_ok hT hs).nd
  have := List.pairwise_iff_getElem.mp hnd 0 1 (by rw [List.length_map]; exact h0) (by rw [List.length_map]; exact h1) (by omega)
  rw [List.getElem_map, List.getElem_map] at this
  exact this
theorem end_is {t : List (List Mv)} {w s : Nat} {p : Wy} (hT : TabW t w) (hs : s < t.length) (hp : p ∈ ends t s) : In t s p.2 ∧ isEnd t p.2 = true := by
  obtain ⟨hpf, hpr⟩ := List.mem_filter.mp hp
  have hne := (found_ok hT hs).no p hpf
  have hpr : (rowOf t p.2).all isNo = true := hpr
  refine ⟨List.mem_map_of_mem hpf, ?_⟩
  cases e : p.2 with
  | no => exact absurd e hne
  | out => rfl
  | to n => rw [e] at hpr; exact hpr
theorem mkE_inj {a b : Mv} (h : mkE a = mkE b) : a = b := by
  cases a <;> cases b <;> first | rfl | (cases h; rfl) | exact nomatch h
theorem mk_con {t : List (List Mv)} {w : Nat} {mk : List Mk} (hT : TabW t w) (h : okMk t mk = true) : conP t t.length = none := by
  cases e : conP t t.length with
  | none => rfl
  | some s =>
    obtain ⟨hs, h1⟩ := con_two e
    have h0 : 0 < (ends t s).length := by omega
    obtain ⟨a1, a2⟩ := end_is hT hs (List.getElem_mem h0)
    obtain ⟨b1, b2⟩ := end_is hT hs (List.getElem_mem h1)
    exact absurd (mkE_inj ((mk_end hT h hs a1 a2).symm.trans (mk_end hT h hs b1 b2))) (ends_apart hT hs h0 h1)

end L2.Pv

set_option Elab.async false
set_option linter.all false
set_option maxRecDepth 100000
namespace L2.Pv
open PySem PySem.Spec PyProof.Rows L2
/-! ### marks of ends -/
def em (t : List (List Mv)) (s : Nat) : PyData := match ends t s with
  | [] => .str "open"
  | p :: _ => p.2.d
def manyE (t : List (List Mv)) (s : Nat) : Bool := decide (1 < (ends t s).length)
def endM (t : List (List Mv)) : PyData := if (List.range t.length).any (manyE t) = true then .none else .tuple ((List.range t.length).map (em t))
theorem tru_tup {ds : List PyData} {S : Sto} : gTru (.d (.tuple ds)) S = some (!ds.isEmpty) := rfl
theorem end_marks_eq {k w : Nat} {t : List (List Mv)} {S : Sto} (h : TabW t w) (hw : w ≤ 4) (h60 : t.length ≤ 60) : run T (k + 3) "end_marks" [.d (tabD t)] S = .ok (.d (endM t)) S := by
  obtain ⟨n, hn⟩ : ∃ n, S.length = n := ⟨_, rfl⟩
  refine R.Sat.eq ?_
  rw [u_end_marks, Sat_end]
  unfold b_end_marks
  have hr := rng_ok (n := (t.length : Int)) (by omega) (by omega)
  have hf := rng_fuel (n := (t.length : Int)) (i := 0) (by omega)
  have hlenT : ∀ S, gLen (.d (tabD t)) S = .ok (.d (.int (t.length : Nat))) S := fun S => by unfold tabD; rw [v_lenT, List.length_map]
  simp (decide := true) only [EV, hn, hlenT, hr, hf]
  rw [rng_map, Int.toNat_natCast]
  unfold endM
  refine Sat_forO (all := List.range t.length) (g := fun (j : Nat) => .int (0 + (j : Int))) (fun rest Γ S' => ∃ (i : Nat) (a b : Option Vl), rest = List.range' i (t.length - i) ∧ i ≤ t.length ∧ (List.range t.length).any (manyE t) = rest.any (manyE t) ∧ S' = S ++ [.lst ((List.range i).map (em t))] ∧ Γ = [some (.d (tabD t)), some (.o n), a, b]) ⟨0, _, _, by rw [List.range_eq_range']; rfl, Nat.zero_le _, rfl, rfl, rfl⟩ ?_ ?_
  · rintro j rest Γ S' hj ⟨i, a, b, hrest, hi, hany, rfl, rfl⟩
    have hj := List.mem_range.mp hj
    have hi2 : i < t.length := by
      rcases Nat.lt_or_ge i t.length with z | z
      · exact z
      · rw [show t.length - i = 0 by omega] at hrest
        cases hrest
    rw [show t.length - i = (t.length - (i + 1)) + 1 by omega, List.range'_succ] at hrest
    obtain ⟨rfl, rfl⟩ := List.cons.inj hrest
    obtain ⟨he1, he2⟩ := ends_mem h hj h60
    rw [List.any_cons] at hany
    have hap : ∀ d : PyData, gAppend (.o n) [.d d] (S ++ [.lst ((List.range j).map (em t))]) = .ok (.d .none) (S ++ [.lst ((List.range j).map (em t) ++ [d])]) := fun d => app_own hn (by rw [List.length_map, List.length_range]; show _ < 16777216; omega)
    refine ⟨_, rfl, ?_⟩
    simp (decide := true) only [EV, Int.zero_add, ends_eq h hw hj h60, List.length_map]
    refine Sat_pickB (fun hx => ?_) fun hx => ?_
    · have hx := of_decide_eq_true hx
      have e : manyE t j = true := decide_eq_true (by omega)
      rw [hany, e]
      simp (decide := true) only [EV, fin_d]
      exact ⟨rfl, take_own hn⟩
    · have hx := of_decide_eq_false hx
      have e : manyE t j = false := decide_eq_false (by omega)
      rw [e, Bool.false_or] at hany
      have hem : em t j = match ends t j with | [] => .str "open" | p :: _ => p.2.d := rfl
      simp (decide := true) only [EV, tru_tup]
      cases he : ends t j with
      | nil =>
        rw [he] at hem
        simp (decide := true) only [EV, List.map_nil, List.isEmpty_nil, Bool.not_true, lst_own hn, hap]
        refine ⟨j + 1, _, _, rfl, by omega, hany, ?_, rfl⟩
        rw [List.range_succ, List.map_append]
        show _ = S ++ [Ob.lst ((List.range j).map (em t) ++ [em t j])]
        rw [hem]
      | cons p r =>
        rw [he] at hem
        have ewy : wyD p = .tuple [.tuple (p.1.map fun (x : Nat) => .int x), p.2.d] := rfl
        simp (decide := true) only [EV, List.map_cons, List.isEmpty_cons, Bool.not_false, ewy, lst_own hn, hap]
        refine ⟨j + 1, _, _, rfl, by omega, hany, ?_, rfl⟩
        rw [List.range_succ, List.map_append]
        show _ = S ++ [Ob.lst ((List.range j).map (em t) ++ [em t j])]
        rw [hem]
  · rintro Γ S' ⟨i, a, b, hrest, hi, hany, rfl, rfl⟩
    have hi : i = t.length := by
      rcases Nat.lt_or_ge i t.length with z | z
      · rw [show t.length - i = (t.length - (i + 1)) + 1 by omega, List.range'_succ] at hrest
        cases hrest
      · omega
    subst hi
    rw [hany]
    simp (decide := true) only [EV, lst_own hn, fin_d]
    exact ⟨rfl, take_own hn⟩

def emK (t : List (List Mv)) (s : Nat) : Mk := match ends t s with
  | [] => .op
  | p :: _ => mkE p.2
theorem mkE_d {m : Mv} (h : m ≠ .no) : (mkE m).d = m.d := by cases m <;> first | rfl | exact absurd rfl h
theorem em_k {t : List (List Mv)} {w s : Nat} (hT : TabW t w) (hs : s < t.length) : em t s = (emK t s).d := by
  have hno : ∀ p ∈ ends t s, p.2 ≠ .no := fun p hp => (found_ok hT hs).no p (List.mem_filter.mp hp).1
  unfold em emK
  cases e : ends t s with
  | nil => rfl
  | cons p r =>
    have := hno p (by rw [e]; exact List.mem_cons_self)
    exact (mkE_d this).symm
theorem endM_some {t : List (List Mv)} {w : Nat} (hT : TabW t w) (hc : conP t t.length = none) : endM t = .tuple (mkD ((List.range t.length).map (emK t))) := by
  have h : ((List.range t.length).any (manyE t)) = false := by
    rw [List.any_eq_false]
    unfold conP at hc
    rw [List.find?_eq_none] at hc
    exact hc
  unfold endM mkD
  rw [h, if_neg Bool.false_ne_true, List.map_map]
  congr 1
  exact List.map_congr_left fun s hs => em_k hT (List.mem_range.mp hs)
theorem endM_none {t : List (List Mv)} {s : Nat} (hc : conP t t.length = some s) : endM t = .none := by
  have h : ((List.range t.length).any (manyE t)) = true := by
    rw [List.any_eq_true]
    unfold conP at hc
    exact ⟨s, List.mem_of_find?_eq_some hc, List.find?_some (p := two t) hc⟩
  unfold endM
  rw [if_pos h]

end L2.Pv

set_option Elab.async false
set_option linter.all false
set_option maxRecDepth 100000
namespace L2.Pv
open PySem PySem.Spec PyProof.Rows L2
/-! ### heights and end marks are taken -/
def uL (t : List (List Mv)) (u : Nat → Nat) : List Int := (List.range t.length).map fun s => ((u s : Nat) : Int)
theorem uD_iD (t : List (List Mv)) (u : Nat → Nat) : uD t u = iD (uL t u) := by
  unfold uD iD uL
  rw [List.map_map]
  rfl
theorem uL_at {t : List (List Mv)} {u : Nat → Nat} {s : Nat} (hs : s < t.length) : (uL t u).getD s 0 = ((u s : Nat) : Int) := by
  unfold uL
  rw [getD_at (by rw [List.length_map, List.length_range]; exact hs), List.getElem_map, List.getElem_range]
theorem heights_ok {t : List (List Mv)} {w : Nat} {u : Nat → Nat} (hT : TabW t w) (h : AllH t u) : okT t (uL t u) = true := by
  have hv := allH_valid hT h
  unfold okT
  rw [Bool.and_eq_true]
  refine ⟨decide_eq_true (by unfold uL; rw [List.length_map, List.length_range]), List.all_eq_true.mpr fun s hs => List.all_eq_true.mpr fun m hm => ?_⟩
  have hs := List.mem_range.mp hs
  obtain ⟨h1, h2⟩ := hv s hs
  cases m with
  | no => rfl
  | out =>
    have := h1 hm
    refine decide_eq_true ?_
    rw [uL_at hs]
    omega
  | to n =>
    have hn : n < t.length := by
      have hm2 := hm
      rw [getD_at hs] at hm2
      exact hT.to _ (List.getElem_mem hs) n hm2
    have := h2 n hm
    refine decide_eq_true ?_
    rw [uL_at hs, uL_at hn]
    omega

end L2.Pv

set_option Elab.async false
set_option linter.all false
set_option maxRecDepth 100000
namespace L2.Pv
open PySem PySem.Spec PyProof.Rows L2
theorem one_of_len {l : List Wy} (h : l.length ≤ 1) {p q : Wy} (hp : p ∈ l) (hq : q ∈ l) : p = q := by
  match l, h, hp, hq with
  | [a], _, hp, hq => rw [List.mem_singleton.mp hp, List.mem_singleton.mp hq]
  | [], _, hp, _ => exact absurd hp List.not_mem_nil
theorem emK_end {t : List (List Mv)} {s : Nat} (hs : s < t.length) (hc : conP t t.length = none) {m : Mv} (hi : In t s m) (he : isEnd t m = true) : emK t s = mkE m := by
  have h2 : (ends t s).length ≤ 1 := by
    unfold conP at hc
    have h1 : ¬two t s = true := List.find?_eq_none.mp hc s (List.mem_range.mpr hs)
    have h2 : ¬1 < (ends t s).length := fun z => h1 (decide_eq_true z)
    omega
  obtain ⟨p, hp, rfl⟩ := List.mem_map.mp hi
  have hr : (rowOf t p.2).all isNo = true := by
    cases e : p.2 with
    | no => rw [e] at he; exact nomatch he
    | out => rfl
    | to n => rw [e] at he; exact he
  have hpe : p ∈ ends t s := List.mem_filter.mpr ⟨hp, hr⟩
  unfold emK
  cases e : ends t s with
  | nil => rw [e] at hpe; exact absurd hpe List.not_mem_nil
  | cons q r => rw [one_of_len h2 hpe (by rw [e]; exact List.mem_cons_self)]
theorem emK_op {t : List (List Mv)} {w s : Nat} (hT : TabW t w) (hs : s < t.length) (h : emK t s ≠ .op) : ∃ m, In t s m ∧ isEnd t m = true ∧ emK t s = mkE m := by
  unfold emK at h ⊢
  cases e : ends t s with
  | nil => rw [e] at h; exact absurd rfl h
  | cons p r =>
    obtain ⟨h1, h2⟩ := end_is hT hs (p := p) (by rw [e]; exact List.mem_cons_self)
    exact ⟨p.2, h1, h2, rfl⟩

end L2.Pv

set_option Elab.async false
set_option linter.all false
set_option maxRecDepth 100000
namespace L2.Pv
open PySem PySem.Spec PyProof.Rows L2
def emL (t : List (List Mv)) : List Mk := (List.range t.length).map (emK t)
theorem emL_at {t : List (List Mv)} {s : Nat} (hs : s < t.length) : (emL t).getD s .op = emK t s := by
  unfold emL
  rw [getD_at (by rw [List.length_map, List.length_range]; exact hs), List.getElem_map, List.getElem_range]
theorem mkE_op {t : List (List Mv)} {m : Mv} (he : isEnd t m = true) : mkE m ≠ .op := by
  cases m with
  | no => exact nomatch he
  | out => exact fun z => nomatch z
  | to n => exact fun z => nomatch z
theorem marks_ok {t : List (List Mv)} {w : Nat} (hT : TabW t w) (hc : conP t t.length = none) : okMk t (emL t) = true := by
  unfold okMk
  rw [Bool.and_eq_true]
  refine ⟨decide_eq_true (by unfold emL; rw [List.length_map, List.length_range]), List.all_eq_true.mpr fun s hs => ?_⟩
  have hs := List.mem_range.mp hs
  have hrest : (t.getD s []).all isNo = true → emK t s = .num s := fun h => emK_end hs hc (m := .to s) in_self h
  have hout : Mv.out ∈ t.getD s [] → emK t s = .out := fun h => emK_end hs hc (m := .out) (found_closed hT hs in_self (show Mv.out ∈ rowOf t (.to s) from h) fun z => nomatch z) rfl
  have hto : ∀ n, Mv.to n ∈ t.getD s [] → n < t.length ∧ (emK t n = .op ∨ emK t n = emK t s) := fun n h => by
    have hi := found_closed hT hs in_self (show Mv.to n ∈ rowOf t (.to s) from h) fun z => nomatch z
    have hn := in_lt hT hs hi
    refine ⟨hn, ?_⟩
    by_cases ho : emK t n = .op
    · exact .inl ho
    · obtain ⟨m, h1, h2, h3⟩ := emK_op hT hn ho
      exact .inr (h3.trans (emK_end hs hc (in_trans hT hs hi h1) h2).symm)
  have hne : ∀ n, n < t.length → emK t n = .op → emK t s = .op ∨ True := fun _ _ _ => .inr trivial
  unfold okS
  rw [emL_at hs]
  by_cases hop : emK t s = .op
  · rw [if_pos hop]
    unfold openB
    rw [Bool.and_eq_true]
    refine ⟨List.all_eq_true.mpr fun m hm => ?_, ?_⟩
    · cases m with
      | no => rfl
      | out => rw [hout hm] at hop; exact nomatch hop
      | to n =>
        obtain ⟨hn, h⟩ := hto n hm
        refine decide_eq_true ?_
        rw [emL_at hn]
        exact h.elim id fun z => z.trans hop
    · cases e : (t.getD s []).all isNo with
      | true => rw [hrest e] at hop; exact nomatch hop
      | false => rfl
  · rw [if_neg hop]
    unfold endB
    rw [emL_at hs]
    by_cases hall : (t.getD s []).all isNo = true
    · rw [if_pos hall]
      exact decide_eq_true (hrest hall)
    · rw [if_neg hall]
      refine List.all_eq_true.mpr fun m hm => ?_
      cases m with
      | no => rfl
      | out => exact decide_eq_true (hout hm)
      | to n =>
        obtain ⟨hn, h⟩ := hto n hm
        refine decide_eq_true ?_
        rw [emL_at hn]
        exact h

end L2.Pv

set_option Elab.async false
set_option linter.all false
set_option maxRecDepth 100000
namespace L2.Pv
open PySem PySem.Spec PyProof.Rows L2
theorem all_ints : ∀ {ys : List PyData}, (∀ y ∈ ys, ∃ r : Int, y = .int r ∧ 0 ≤ r) → ∃ rk : List Int, ys = iD rk ∧ ∀ r ∈ rk, 0 ≤ r
  | [], _ => ⟨[], rfl, fun r hr => absurd hr List.not_mem_nil⟩
  | y :: ys, h => by
    obtain ⟨r, e, h0⟩ := h y List.mem_cons_self
    obtain ⟨rk, e2, h2⟩ := all_ints (ys := ys) fun z hz => h z (List.mem_cons_of_mem _ hz)
    refine ⟨r :: rk, by rw [e, e2]; rfl, fun z hz => ?_⟩
    rcases List.mem_cons.mp hz with rfl | hz
    · exact h0
    · exact h2 z hz
theorem all_marks : ∀ {ys : List PyData}, (∀ y ∈ ys, ∃ m : Mk, y = m.d) → ∃ mk : List Mk, ys = mkD mk
  | [], _ => ⟨[], rfl⟩
  | y :: ys, h => by
    obtain ⟨m, e⟩ := h y List.mem_cons_self
    obtain ⟨mk, e2⟩ := all_marks (ys := ys) fun z hz => h z (List.mem_cons_of_mem _ hz)
    exact ⟨m :: mk, by rw [e, e2]; rfl⟩

end L2.Pv

set_option Elab.async false
set_option linter.all false
set_option maxRecDepth 100000
namespace L2.Pv
open PySem PySem.Spec PyProof.Rows L2
def law_tail (call : Str → GL) : SS :=
  (sSeq (sSet 12 (sCall (call "_law_drawn_way") [(sVar 1), (sVar 2)]))
  (sSeq (sIte (sTru (sCall (call "takes_ranks") [(sVar 2), (sCall (arg1 gTuple) [(sVar 7)])]))
  (sSeq (sIte (sOr (sTst (sBin (gIsN true) (sVar 3) (sCon .none))) (sTst (sBin (cmp2 dGt) (sBin gIx (sVar 12) (sCon (.int 1))) (sBin gIx (sVar 7) (sBin gIx (sVar 12) (sCon (.int 0)))))))
  (sRet (sCon (.bool false)))
  sSkip)
  (sIte (sTst (sBin (cmp2 dGt) (sCall (arg1 gLen) [(sComp [13] (sRng1 (sCall (arg1 gLen) [(sVar 2)])) (tNm 13) (sTst (sBin (cmp2 dGt) (sBin gIx (sVar 5) (sVar 13)) (sBin gIx (sVar 7) (sVar 13)))) (sVar 13))]) (sCon (.int 0))))
  (sRet (sCon (.bool false)))
  sSkip))
  sSkip)
  (sSeq (sIte (sTru (sCall (call "takes_marks") [(sVar 2), (sCall (arg1 gTuple) [(sVar 9)])]))
  (sIte (sOr (sTst (sBin (gIsN true) (sVar 4) (sCon .none))) (sAnd (sTru (sCall (call "_law_is_end") [(sVar 2), (sBin gIx (sVar 12) (sCon (.int 2)))])) (sTst (sBin (cmp2 dNe) (sBin gIx (sVar 9) (sBin gIx (sVar 12) (sCon (.int 0)))) (sBin gIx (sVar 12) (sCon (.int 2)))))))
  (sRet (sCon (.bool false)))
  sSkip)
  sSkip)
  (sRet (sCon (.bool true))))))
def law_pre (tl : SS) (call : Str → GL) : SS :=
  (sSeq (sSet 1 (sCall (call "_law_tape") [(sVar 0)]))
  (sSeq (sSet 2 (sCall (call "_law_table") [(sVar 1)]))
  (sSeq (sSet 3 (sCall (call "table_fight") [(sVar 2)]))
  (sSeq (sSet 4 (sCall (call "table_conflict") [(sVar 2)]))
  (sSeq (sSet 5 (sCall (call "heights") [(sVar 2)]))
  (sSeq (sSet 6 (sCall (call "end_marks") [(sVar 2)]))
  (sSeq (sIte (sOr (sTst (sBin (cmp2 dNe) (sBin (gIsN false) (sVar 5) (sCon .none)) (sBin (gIsN true) (sVar 3) (sCon .none)))) (sTst (sBin (cmp2 dNe) (sBin (gIsN false) (sVar 6) (sCon .none)) (sBin (gIsN true) (sVar 4) (sCon .none)))))
  (sRet (sCon (.bool false)))
  sSkip)
  (sSeq (sIte (sAnd (sTst (sBin (gIsN true) (sVar 3) (sCon .none))) (sNot (sTru (sCall (call "_law_true_fight") [(sVar 2), (sVar 3)]))))
  (sRet (sCon (.bool false)))
  sSkip)
  (sSeq (sIte (sAnd (sTst (sBin (gIsN true) (sVar 4) (sCon .none))) (sNot (sTru (sCall (call "_law_true_conflict") [(sVar 2), (sVar 4)]))))
  (sRet (sCon (.bool false)))
  sSkip)
  (sSeq (sSet 7 (sComp [8] (sIter (sVar 2)) (tNm 8) sYes (sCall (call "_law_draw") [(sVar 1), (sBin (dat2 dMul) (sCon (.int 2)) (sCall (arg1 gLen) [(sVar 2)]))])))
  (sSeq (sSet 9 (sComp [8] (sIter (sVar 2)) (tNm 8) sYes (sBin gIx (sCall gLst [(sCon (.str "open")), (sCon (.str "out")), (sCall (call "_law_draw") [(sVar 1), (sCall (arg1 gLen) [(sVar 2)])])]) (sCall (call "_law_draw") [(sVar 1), (sCon (.int 3))]))))
  (sSeq (sIte (sTst (sBin (gIsN true) (sVar 5) (sCon .none)))
  (sSeq (sIte (sTst (sBin (gIsN true) (sCall (call "takes_ranks") [(sVar 2), (sVar 5)]) (sCon (.bool true))))
  (sRet (sCon (.bool false)))
  sSkip)
  (sSet 7 (sComp [10] (sIter (sVar 5)) (tNm 10) sYes (sBin gIx (sCall gLst [(sVar 10), (sVar 10), (sVar 10), (sBin gAdd (sVar 10) (sCon (.int 1))), (sBin gAdd (sVar 10) (sCon (.int 7)))]) (sCall (call "_law_draw") [(sVar 1), (sCon (.int 5))])))))
  sSkip)
  (sSeq (sIte (sTst (sBin (gIsN true) (sVar 6) (sCon .none)))
  (sSeq (sIte (sTst (sBin (gIsN true) (sCall (call "takes_marks") [(sVar 2), (sVar 6)]) (sCon (.bool true))))
  (sRet (sCon (.bool false)))
  sSkip)
  (sSet 9 (sComp [11] (sIter (sVar 6)) (tNm 11) sYes (sBin gIx (sCall gLst [(sVar 11), (sVar 11), (sVar 11), (sVar 11), (sVar 11), (sCon (.str "open"))]) (sCall (call "_law_draw") [(sVar 1), (sCon (.int 6))])))))
  sSkip)
  tl)))))))))))))
theorem law_b_eq (call : Str → GL) : b_law call = law_pre (law_tail call) call := rfl
theorem conO_isn (neg : Bool) (t : List (List Mv)) (o : Option Nat) (S : Sto) : gIsN neg (.d (conO t o)) (.d .none) S = .ok (.d (.bool (if neg = true then o.isSome else o.isNone))) S := by cases o <;> cases neg <;> rfl
theorem mv_ne_self (m : Mv) : dNe m.d m.d = some (.bool false) := by
  have e := mv_eqv m m
  rw [decide_eq_true rfl] at e
  cases m <;> (show some (PyData.bool (!PyData.eqv _ _)) = _; rw [show PyData.eqv _ _ = true from e]; rfl)
theorem sat_tail {ns : List Int} {w : Nat} {tt : List (List Mv)} {S0 S : Sto} {rk : List Int} {mk : List Mk} {L E : PyData} {a b c d e : Option Vl} (hk : Kp 0 S0 S) (hT : TabW tt w) (hn0 : 0 < tt.length) (hn1 : tt.length ≤ 60) (hw1 : w ≤ 4) (hrl : rk.length = tt.length) (hr0 : ∀ r ∈ rk, 0 ≤ r) (hml : mk.length = tt.length)
    (hL : (∃ u, AllH tt u ∧ L = .tuple (uD tt u)) ∨ (L = .none ∧ ∃ U, Endless tt U)) :
    (law_tail (run T 49) [some (.k (ns.map .int)), some (.o 0), some (.d (tabD tt)), some (.d (bestD (bestP tt tt.length))), some (.d (conO tt (conP tt tt.length))), some (.d L), some (.d E), some (.d (.list (iD rk))), a, some (.d (.list (mkD mk))), b, c, d, e] S).Sat fun fl _ => fl = .rt (.d (.bool true)) := by
  unfold law_tail
  have hlT : ∀ S, gLen (.d (tabD tt)) S = .ok (.d (.int (tt.length : Nat))) S := fun S => by unfold tabD; rw [v_lenT, List.length_map]
  have hr := rng_ok (n := (tt.length : Int)) (by omega) (by omega)
  have hf := rng_fuel (n := (tt.length : Int)) (i := 0) (by omega)
  simp (decide := true) only [EV]
  refine Gen.then hk (sat_way hk.tp hT hw1 hn0 hn1) fun v S1 ⟨s, n, m, e, hs, hW⟩ hk => ?_
  subst e
  have hne := wk_ne hW
  have hin := wk_in hT hs hW
  have hsr : s < rk.length := by omega
  have hsm : s < mk.length := by omega
  simp (decide := true) only [EV, takes_eq hT]
  refine R.Sat.bind (P := fun fl S2 => S2 = S1 ∧ ∃ x : Option Vl, fl = .nx [some (.k (ns.map .int)), some (.o 0), some (.d (tabD tt)), some (.d (bestD (bestP tt tt.length))), some (.d (conO tt (conP tt tt.length))), some (.d L), some (.d E), some (.d (.list (iD rk))), a, some (.d (.list (mkD mk))), b, c, some (.d (.tuple [.int (s : Nat), .int (n : Nat), m.d])), x]) ?_ ?_
  · cases hok : okT tt rk with
    | false =>
      simp (decide := true) only [EV]
      exact ⟨rfl, _, rfl⟩
    | true =>
      have hF := ok_noF hT hok
      have hb := best_noF hF
      obtain ⟨u, hu, rfl⟩ : ∃ u, AllH tt u ∧ L = .tuple (uD tt u) := by
        rcases hL with h | ⟨_, U, hU⟩
        · exact h
        · exact absurd hF (endless_fight hT hU)
      have hrg : ∀ k, k < tt.length → 0 ≤ rk.getD k 0 := fun k hk => by rw [getD_at (by omega)]; exact hr0 _ (List.getElem_mem _)
      obtain ⟨hm1, hm2⟩ := wk_rank hT hok hs hW
      have hm3 : 0 ≤ rkOf rk m := by
        cases m with
        | to k => exact hrg k (hm1 k rfl)
        | no => exact Int.le_refl 0
        | out => exact Int.le_refl 0
      have hle : decide (rk.getD s 0 < (n : Int)) = false := decide_eq_false (by omega)
      obtain ⟨f, hf2⟩ := id hu
      have q1 : ∀ S, gIsN true (.d (bestD none)) (.d .none) S = .ok (.d (.bool false)) S := fun _ => rfl
      simp (decide := true) only [EV, hb, q1, iD_at hsr, hle, hlT, hr, hf]
      rw [rng_map, Int.toNat_natCast, comp_filtg (p := fun _ => false) (f := fun (j : Nat) => PyData.int (0 + (j : Int))) (fun (j : Nat) => PyData.int (0 + (j : Int))) fun j hj => by
        have hj := List.mem_range.mp hj
        have h1 : atI (uD tt u) (j : Int) = some (.int (u j : Nat)) := by
          unfold uD
          rw [atI_nat (by rw [List.length_map, List.length_range]; exact hj), List.getElem_map, List.getElem_range]
        have h2 := hg_rank hT hok hrg f j (u j) hj (hf2 j hj)
        have h3 : decide (rk.getD j 0 < ((u j : Nat) : Int)) = false := decide_eq_false (by omega)
        exact ⟨_, rfl, by simp (decide := true) only [EV, Int.zero_add, h1, iD_at (l := rk) (n := j) (by omega), h3], fun z => nomatch z⟩]
      rw [show (List.range tt.length).filter (fun _ => false) = [] from List.filter_eq_nil_iff.mpr fun _ _ z => nomatch z]
      simp (decide := true) only [EV, List.map_nil, List.length_nil]
      exact ⟨rfl, _, rfl⟩
  rintro fl S2 ⟨rfl, x, rfl⟩
  simp (decide := true) only [EV, takes_marks_eq hT hw1]
  cases hok : okMk tt mk with
  | false =>
    simp (decide := true) only [EV]
    rfl
  | true =>
    have hc := mk_con hT hok
    have hml2 : ∀ k, m = .to k → k < tt.length := fun k e => in_lt hT hs (e ▸ hin)
    have q1 : ∀ S, gIsN true (.d (conO tt none)) (.d .none) S = .ok (.d (.bool false)) S := fun _ => rfl
    simp (decide := true) only [EV, hc, q1, is_end_eq hT hw1 hml2]
    cases he : isEnd tt m with
    | false =>
      simp (decide := true) only [EV]
      rfl
    | true =>
      have h5 := mk_end hT hok hs hin he
      have h6 : atI (mkD mk) (s : Int) = some m.d := by rw [mkD_at hsm, h5, mkE_d hne]
      simp (decide := true) only [EV, h6, mv_ne_self]
      rfl

end L2.Pv

set_option Elab.async false
set_option linter.all false
set_option maxRecDepth 100000
namespace L2.Pv
open PySem PySem.Spec PyProof.Rows L2
def envT (ns : List Int) (tt : List (List Mv)) (F C L E : PyData) (r a m b c d e : Option Vl) : Env := [some (.k (ns.map .int)), some (.o 0), some (.d (tabD tt)), some (.d F), some (.d C), some (.d L), some (.d E), r, a, m, b, c, d, e]
def stR (call : Str → GL) : SS := (sIte (sTst (sBin (gIsN true) (sVar 5) (sCon .none)))
  (sSeq (sIte (sTst (sBin (gIsN true) (sCall (call "takes_ranks") [(sVar 2), (sVar 5)]) (sCon (.bool true))))
  (sRet (sCon (.bool false)))
  sSkip)
  (sSet 7 (sComp [10] (sIter (sVar 5)) (tNm 10) sYes (sBin gIx (sCall gLst [(sVar 10), (sVar 10), (sVar 10), (sBin gAdd (sVar 10) (sCon (.int 1))), (sBin gAdd (sVar 10) (sCon (.int 7)))]) (sCall (call "_law_draw") [(sVar 1), (sCon (.int 5))])))))
  sSkip)
def stM (call : Str → GL) : SS := (sIte (sTst (sBin (gIsN true) (sVar 6) (sCon .none)))
  (sSeq (sIte (sTst (sBin (gIsN true) (sCall (call "takes_marks") [(sVar 2), (sVar 6)]) (sCon (.bool true))))
  (sRet (sCon (.bool false)))
  sSkip)
  (sSet 9 (sComp [11] (sIter (sVar 6)) (tNm 11) sYes (sBin gIx (sCall gLst [(sVar 11), (sVar 11), (sVar 11), (sVar 11), (sVar 11), (sCon (.str "open"))]) (sCall (call "_law_draw") [(sVar 1), (sCon (.int 6))])))))
  sSkip)
theorem sat_stR {ns : List Int} {w : Nat} {tt : List (List Mv)} {S0 S : Sto} {rk : List Int} {F C L E : PyData} {a m b c d e : Option Vl} (hk : Kp 0 S0 S) (hT : TabW tt w) (hn1 : tt.length ≤ 60) (hrl : rk.length = tt.length) (hr0 : ∀ r ∈ rk, 0 ≤ r)
    (hL : (∃ u, AllH tt u ∧ L = .tuple (uD tt u)) ∨ L = .none) :
    (stR (run T 49) (envT ns tt F C L E (some (.d (.list (iD rk)))) a m b c d e) S).Sat fun fl S' => Kp 0 S0 S' ∧ ∃ (rk : List Int) (b : Option Vl), rk.length = tt.length ∧ (∀ r ∈ rk, 0 ≤ r) ∧ fl = .nx (envT ns tt F C L E (some (.d (.list (iD rk)))) a m b c d e) := by
  unfold stR envT
  rcases hL with ⟨u, hu, rfl⟩ | rfl
  · have h1 := heights_ok hT hu
    have hul : (uL tt u).length = tt.length := by unfold uL; rw [List.length_map, List.length_range]
    have hfu : decide (fuelOf (.its (iD (uL tt u))) ≤ SZ) = true := decide_eq_true (by show (iD (uL tt u)).length + 1 ≤ 16777216; rw [iD_len, hul]; omega)
    rw [uD_iD]
    simp (decide := true) only [EV, takes_eq hT, h1, hfu]
    refine Gen.comp hk (P := fun y => ∃ r : Int, y = .int r ∧ 0 ≤ r) (fun y S' hk hd => ⟨_, rfl, ?_⟩) fun ys S2 hl hp hk => ?_
    · obtain ⟨x, hx, rfl⟩ := List.mem_map.mp hd
      have hx0 : 0 ≤ x := by
        obtain ⟨s, _, rfl⟩ := List.mem_map.mp hx
        exact Int.natCast_nonneg _
      simp (decide := true) only [EV]
      refine Gen.then (Kp.refl hk.tp) (sat_draw hk.tp (by decide)) fun v S2 ⟨r, e, hr0, hr1⟩ hk => ?_
      subst e
      obtain ⟨y, e, hy⟩ := atI_in (xs := [PyData.int x, .int x, .int x, .int (x + 1), .int (x + 7)]) hr0 (by show r < 5; omega)
      simp (decide := true) only [EV, e]
      refine ⟨⟨_, rfl, ?_⟩, hk⟩
      simp only [List.mem_cons, List.mem_nil_iff, or_false] at hy
      rcases hy with rfl | rfl | rfl | rfl | rfl <;> exact ⟨_, rfl, by omega⟩
    · obtain ⟨rk2, rfl, h2⟩ := all_ints hp
      rw [iD_len, iD_len, hul] at hl
      exact ⟨hk, rk2, _, hl, h2, rfl⟩
  · simp (decide := true) only [EV]
    exact ⟨hk, rk, _, hrl, hr0, rfl⟩
theorem sat_stM {ns : List Int} {w : Nat} {tt : List (List Mv)} {S0 S : Sto} {mk : List Mk} {F C L : PyData} {r a b c d e : Option Vl} (hk : Kp 0 S0 S) (hT : TabW tt w) (hw1 : w ≤ 4) (hn1 : tt.length ≤ 60) (hml : mk.length = tt.length) :
    (stM (run T 49) (envT ns tt F C L (endM tt) r a (some (.d (.list (mkD mk)))) b c d e) S).Sat fun fl S' => Kp 0 S0 S' ∧ ∃ (mk : List Mk) (c : Option Vl), mk.length = tt.length ∧ fl = .nx (envT ns tt F C L (endM tt) r a (some (.d (.list (mkD mk)))) b c d e) := by
  unfold stM envT
  cases hc : conP tt tt.length with
  | none =>
    have h1 := marks_ok hT hc
    have hul : (emL tt).length = tt.length := by unfold emL; rw [List.length_map, List.length_range]
    have hfu : decide (fuelOf (.its (mkD (emL tt))) ≤ SZ) = true := decide_eq_true (by show (mkD (emL tt)).length + 1 ≤ 16777216; rw [mkD_len, hul]; omega)
    have he : endM tt = .tuple (mkD (emL tt)) := endM_some hT hc
    rw [he]
    simp (decide := true) only [EV, takes_marks_eq hT hw1, h1, hfu]
    refine Gen.comp hk (P := fun y => ∃ m : Mk, y = m.d) (fun y S' hk hd => ⟨_, rfl, ?_⟩) fun ys S2 hl hp hk => ?_
    · obtain ⟨x, hx, rfl⟩ := List.mem_map.mp hd
      simp (decide := true) only [EV]
      refine Gen.then (Kp.refl hk.tp) (sat_draw hk.tp (by decide)) fun v S2 ⟨r, e, hr0, hr1⟩ hk => ?_
      subst e
      obtain ⟨y, e, hy⟩ := atI_in (xs := [x.d, x.d, x.d, x.d, x.d, PyData.str "open"]) hr0 (by show r < 6; omega)
      simp (decide := true) only [EV, e]
      refine ⟨⟨_, rfl, ?_⟩, hk⟩
      simp only [List.mem_cons, List.mem_nil_iff, or_false] at hy
      rcases hy with rfl | rfl | rfl | rfl | rfl | rfl
      · exact ⟨x, rfl⟩
      · exact ⟨x, rfl⟩
      · exact ⟨x, rfl⟩
      · exact ⟨x, rfl⟩
      · exact ⟨x, rfl⟩
      · exact ⟨.op, rfl⟩
    · obtain ⟨mk2, rfl⟩ := all_marks hp
      rw [mkD_len, mkD_len, hul] at hl
      exact ⟨hk, mk2, _, hl, rfl⟩
  | some s =>
    rw [endM_none hc]
    simp (decide := true) only [EV]
    exact ⟨hk, mk, _, hml, rfl⟩
def law_pre2 (st1 st2 tl : SS) (call : Str → GL) : SS :=
  (sSeq (sSet 1 (sCall (call "_law_tape") [(sVar 0)]))
  (sSeq (sSet 2 (sCall (call "_law_table") [(sVar 1)]))
  (sSeq (sSet 3 (sCall (call "table_fight") [(sVar 2)]))
  (sSeq (sSet 4 (sCall (call "table_conflict") [(sVar 2)]))
  (sSeq (sSet 5 (sCall (call "heights") [(sVar 2)]))
  (sSeq (sSet 6 (sCall (call "end_marks") [(sVar 2)]))
  (sSeq (sIte (sOr (sTst (sBin (cmp2 dNe) (sBin (gIsN false) (sVar 5) (sCon .none)) (sBin (gIsN true) (sVar 3) (sCon .none)))) (sTst (sBin (cmp2 dNe) (sBin (gIsN false) (sVar 6) (sCon .none)) (sBin (gIsN true) (sVar 4) (sCon .none)))))
  (sRet (sCon (.bool false)))
  sSkip)
  (sSeq (sIte (sAnd (sTst (sBin (gIsN true) (sVar 3) (sCon .none))) (sNot (sTru (sCall (call "_law_true_fight") [(sVar 2), (sVar 3)]))))
  (sRet (sCon (.bool false)))
  sSkip)
  (sSeq (sIte (sAnd (sTst (sBin (gIsN true) (sVar 4) (sCon .none))) (sNot (sTru (sCall (call "_law_true_conflict") [(sVar 2), (sVar 4)]))))
  (sRet (sCon (.bool false)))
  sSkip)
  (sSeq (sSet 7 (sComp [8] (sIter (sVar 2)) (tNm 8) sYes (sCall (call "_law_draw") [(sVar 1), (sBin (dat2 dMul) (sCon (.int 2)) (sCall (arg1 gLen) [(sVar 2)]))])))
  (sSeq (sSet 9 (sComp [8] (sIter (sVar 2)) (tNm 8) sYes (sBin gIx (sCall gLst [(sCon (.str "open")), (sCon (.str "out")), (sCall (call "_law_draw") [(sVar 1), (sCall (arg1 gLen) [(sVar 2)])])]) (sCall (call "_law_draw") [(sVar 1), (sCon (.int 3))]))))
  (sSeq st1 (sSeq st2 tl)))))))))))))
theorem law_pre_eq (tl : SS) (call : Str → GL) : law_pre tl call = law_pre2 (stR call) (stM call) tl call := rfl

end L2.Pv

set_option Elab.async false
set_option linter.all false
set_option maxRecDepth 100000
namespace L2.Pv
open PySem PySem.Spec PyProof.Rows L2
theorem con_some {t : List (List Mv)} {n s : Nat} (h : conP t n = some s) : ∃ h3 : 1 < (ends t s).length, conO t (some s) = .tuple [.int (s : Nat), wyD ((ends t s)[0]'(by omega)), wyD (ends t s)[1]] := by
  have h2 : two t s = true := by unfold conP at h; exact List.find?_some h
  have h3 : 1 < (ends t s).length := of_decide_eq_true h2
  refine ⟨h3, ?_⟩
  show PyData.tuple [.int (s : Nat), ((ends t s)[0]?.map wyD).getD .none, ((ends t s)[1]?.map wyD).getD .none] = _
  rw [List.getElem?_eq_getElem (show 0 < (ends t s).length by omega), List.getElem?_eq_getElem h3]
  rfl
theorem con_lt {t : List (List Mv)} {n s : Nat} (h : conP t n = some s) : s < n := by
  unfold conP at h
  exact List.mem_range.mp (List.mem_of_find?_eq_some h)

theorem endM_isn {t : List (List Mv)} {w : Nat} (hT : TabW t w) (neg : Bool) (S : Sto) : gIsN neg (.d (endM t)) (.d .none) S = .ok (.d (.bool (if neg = true then (conP t t.length).isNone else (conP t t.length).isSome))) S := by
  cases h : conP t t.length with
  | none => rw [endM_some hT h]; cases neg <;> rfl
  | some s => rw [endM_none h]; cases neg <;> rfl
theorem ne_bools (a b : Bool) : dNe (.bool a) (.bool b) = some (.bool (!(a == b))) := by cases a <;> cases b <;> rfl
theorem law_true (ns : List Int) (hl : ns.length ≤ 63) : run T 50 "law" [.k (ns.map .int)] [] = .ok (.d (.bool true)) [] := by
  refine R.Sat.eq ?_
  rw [u_law (k := 49)]
  obtain ⟨S0, e, htp, hl0⟩ := tape_ex (k := 48) ns
  rw [Sat_end, law_b_eq, law_pre_eq]
  generalize htl : law_tail (run T 49) = tl
  generalize hs1 : stR (run T 49) = st1
  generalize hs2 : stM (run T 49) = st2
  unfold law_pre2
  simp (decide := true) only [EV, e]
  refine Gen.then (t := 0) (Kp.refl htp) (sat_table htp) fun v S1 ⟨tt, w, e, hT, hn0, hn1, hw0, hw1⟩ hk => ?_
  subst e
  have hx := heights_eq (k := 47) (S := S1) hT hn1
  have hh := hx.choose_spec.1
  have hL := hx.choose_spec.2
  generalize hx.choose = L at hh hL
  have q1 := fight_eq (k := 46) (S := S1) hT hw1 hn1
  have q2 := conflict_eq (k := 46) (S := S1) hT hw1 hn1
  have q3 := end_marks_eq (k := 46) (S := S1) hT hw1 hn1
  have eT : tabD tt = .tuple (tt.map rowD) := rfl
  have hfu : decide (fuelOf (.its (tt.map rowD)) ≤ SZ) = true := decide_eq_true (by show (tt.map rowD).length + 1 ≤ 16777216; rw [List.length_map]; omega)
  have hlT : ∀ S, gLen (.d (tabD tt)) S = .ok (.d (.int (tt.length : Nat))) S := fun S => by rw [eT, v_lenT, List.length_map]
  have hsT : ∀ S, srcOf S (.d (tabD tt)) = some (.its (tt.map rowD)) := fun S => rfl
  have q4 : gIsN false (.d L) (.d .none) S1 = .ok (.d (.bool (bestP tt tt.length).isSome)) S1 := by
    rcases hL with ⟨u, hu, rfl⟩ | ⟨rfl, U, hU⟩
    · rw [best_noF (allH_noF hT hu)]; rfl
    · cases hb : bestP tt tt.length with
      | none => exact absurd (noF_of hb) (endless_fight hT hU)
      | some b => rfl
  have q5 : gIsN true (.d (bestD (bestP tt tt.length))) (.d .none) S1 = .ok (.d (.bool (bestP tt tt.length).isSome)) S1 := bestD_isn true _ S1
  have q6 : gIsN false (.d (endM tt)) (.d .none) S1 = .ok (.d (.bool (conP tt tt.length).isSome)) S1 := endM_isn hT false S1
  have q7 : gIsN true (.d (conO tt (conP tt tt.length))) (.d .none) S1 = .ok (.d (.bool (conP tt tt.length).isSome)) S1 := conO_isn true tt _ S1
  have hL2 : (∃ u, AllH tt u ∧ L = .tuple (uD tt u)) ∨ L = .none := hL.imp id fun h => h.1
  generalize hcs : (conP tt tt.length).isSome = cs at q6 q7
  generalize hfb : (bestP tt tt.length).isSome = fb at q4 q5
  simp (decide := true) only [EV, hh, q1, q2, q3, q4, q5, q6, q7, ne_bools, beq_self_eq_true, Bool.not_true]
  refine R.Sat.bind (P := fun (b : Bool) S2 => S2 = S1 ∧ b = false) ?_ ?_
  · cases fb with
    | false =>
      simp (decide := true) only [EV]
      exact ⟨rfl, rfl⟩
    | true =>
      cases hb : bestP tt tt.length with
      | none => rw [hb] at hfb; exact nomatch hfb
      | some b =>
        obtain ⟨h1, h2⟩ := best_some _ b hb
        have q8 := true_fight_eq (k := 47) (S := S1) hT hw1 h1 hn1 h2
        simp (decide := true) only [EV, q8]
        exact ⟨rfl, rfl⟩
  rintro fl S2 ⟨rfl, rfl⟩
  simp (decide := true) only [EV, q7]
  refine R.Sat.bind (P := fun (b : Bool) S3 => S3 = S2 ∧ b = false) ?_ ?_
  · cases cs with
    | false =>
      simp (decide := true) only [EV]
      exact ⟨rfl, rfl⟩
    | true =>
      cases hc : conP tt tt.length with
      | none => rw [hc] at hcs; exact nomatch hcs
      | some s =>
        obtain ⟨h3, e3⟩ := con_some hc
        have h4 := con_lt hc
        have q8 := true_conflict_eq (k := 47) (S := S2) hT hw1 h4 hn1 (List.getElem_mem (show 0 < (ends tt s).length by omega)) (List.getElem_mem h3) (ends_apart hT h4 (by omega) h3)
        simp (decide := true) only [EV, e3, q8]
        exact ⟨rfl, rfl⟩
  rintro fl S3 ⟨rfl, rfl⟩
  simp (decide := true) only [EV, hlT, hsT, hfu]
  refine Gen.comp hk (P := fun y => ∃ r : Int, y = .int r ∧ 0 ≤ r) (fun y S' hk hd => ⟨_, rfl, ?_⟩) fun ys S4 hly hp hk => ?_
  · have hm : dMul (.int 2) (.int (tt.length : Int)) = some (.int (2 * (tt.length : Int))) := v_mulL (by decide) (by decide)
    simp (decide := true) only [EV, hlT, hm]
    refine Gen.mono (sat_draw hk.tp (by omega)) fun v ⟨r, e, h0, h1⟩ => ?_
    subst e
    exact ⟨_, rfl, r, rfl, h0⟩
  obtain ⟨rk, rfl, hr0⟩ := all_ints hp
  rw [iD_len, List.length_map] at hly
  refine Gen.comp hk (P := fun y => ∃ m : Mk, y = m.d) (fun y S' hk hd => ⟨_, rfl, ?_⟩) fun ys S5 hlz hp hk => ?_
  · simp (decide := true) only [EV, hlT]
    refine Gen.then (Kp.refl hk.tp) (sat_draw hk.tp (by omega)) fun v S2 ⟨r, e, hr0, hr1⟩ hk => ?_
    subst e
    try simp (decide := true) only [EV]
    refine Gen.then hk (sat_draw hk.tp (by decide)) fun v S2 ⟨q, e, hq0, hq1⟩ hk => ?_
    subst e
    obtain ⟨s, rfl⟩ := Int.eq_ofNat_of_zero_le hr0
    obtain ⟨y, e, hy⟩ := atI_in (xs := [PyData.str "open", .str "out", .int (s : Nat)]) hq0 (by show q < 3; omega)
    simp (decide := true) only [EV, e]
    refine ⟨⟨_, rfl, ?_⟩, hk⟩
    simp only [List.mem_cons, List.mem_nil_iff, or_false] at hy
    rcases hy with rfl | rfl | rfl
    · exact ⟨.op, rfl⟩
    · exact ⟨.out, rfl⟩
    · exact ⟨.num s, rfl⟩
  obtain ⟨mk, rfl⟩ := all_marks hp
  rw [mkD_len, List.length_map] at hlz
  try simp (decide := true) only [EV]
  subst hs1
  refine R.Sat.bind (sat_stR (ns := ns) hk hT hn1 hly hr0 hL2) ?_
  rintro fl S6 ⟨hk, rk, b, hrl, hr0, rfl⟩
  try simp (decide := true) only [EV]
  subst hs2
  refine R.Sat.bind (sat_stM (ns := ns) hk hT hw1 hn1 hlz) ?_
  rintro fl S7 ⟨hk, mk, c, hml, rfl⟩
  try simp (decide := true) only [EV]
  subst htl
  refine R.Sat.mono (sat_tail (ns := ns) hk hT hn0 hn1 hw1 hrl hr0 hml hL) ?_
  rintro fl S8 rfl
  simp (decide := true) only [EV, fin_d]
  exact ⟨rfl, List.take_zero⟩

end L2.Pv

set_option Elab.async false
set_option linter.all false
set_option maxRecDepth 100000
namespace L2.Pv
open PySem PySem.Spec PyProof.Rows L2
theorem look_mem {α : Type} {x : Str} {a : α} : ∀ {l : List (Str × α)}, l.lookup x = some a → (x, a) ∈ l
  | [], h => by simp at h
  | (y, b) :: r, h => by
    rw [List.lookup_cons] at h
    split at h
    · rename_i e
      have e2 : x = y := by simpa using e
      cases h
      rw [e2]
      exact List.mem_cons_self
    · exact List.mem_cons_of_mem _ (look_mem h)
theorem o_is_at_rest : EntOk G e_is_at_rest := ⟨fun call => by kernel_rfl, ⟨rfl, rfl, rfl, by decide +kernel, rfl, by decide +kernel, by decide +kernel⟩⟩
theorem o_first_schedules : EntOk G e_first_schedules := ⟨fun call => by kernel_rfl, ⟨rfl, rfl, rfl, by decide +kernel, rfl, by decide +kernel, by decide +kernel⟩⟩
theorem o_ends_from : EntOk G e_ends_from := ⟨fun call => by kernel_rfl, ⟨rfl, rfl, rfl, by decide +kernel, rfl, by decide +kernel, by decide +kernel⟩⟩
theorem o_table_conflict : EntOk G e_table_conflict := ⟨fun call => by kernel_rfl, ⟨rfl, rfl, rfl, by decide +kernel, rfl, by decide +kernel, by decide +kernel⟩⟩
theorem o_first_return : EntOk G e_first_return := ⟨fun call => by kernel_rfl, ⟨rfl, rfl, rfl, by decide +kernel, rfl, by decide +kernel, by decide +kernel⟩⟩
theorem o_table_fight : EntOk G e_table_fight := ⟨fun call => by kernel_rfl, ⟨rfl, rfl, rfl, by decide +kernel, rfl, by decide +kernel, by decide +kernel⟩⟩
theorem o_height_above : EntOk G e_height_above := ⟨fun call => by kernel_rfl, ⟨rfl, rfl, rfl, by decide +kernel, rfl, by decide +kernel, by decide +kernel⟩⟩
theorem o_heights : EntOk G e_heights := ⟨fun call => by kernel_rfl, ⟨rfl, rfl, rfl, by decide +kernel, rfl, by decide +kernel, by decide +kernel⟩⟩
theorem o_takes_ranks : EntOk G e_takes_ranks := ⟨fun call => by kernel_rfl, ⟨rfl, rfl, rfl, by decide +kernel, rfl, by decide +kernel, by decide +kernel⟩⟩
theorem o_end_marks : EntOk G e_end_marks := ⟨fun call => by kernel_rfl, ⟨rfl, rfl, rfl, by decide +kernel, rfl, by decide +kernel, by decide +kernel⟩⟩
theorem o_takes_open : EntOk G e_takes_open := ⟨fun call => by kernel_rfl, ⟨rfl, rfl, rfl, by decide +kernel, rfl, by decide +kernel, by decide +kernel⟩⟩
theorem o_takes_end : EntOk G e_takes_end := ⟨fun call => by kernel_rfl, ⟨rfl, rfl, rfl, by decide +kernel, rfl, by decide +kernel, by decide +kernel⟩⟩
theorem o_takes_marks : EntOk G e_takes_marks := ⟨fun call => by kernel_rfl, ⟨rfl, rfl, rfl, by decide +kernel, rfl, by decide +kernel, by decide +kernel⟩⟩
theorem o_law_tape : EntOk G e_law_tape := ⟨fun call => by kernel_rfl, ⟨rfl, rfl, rfl, by decide +kernel, rfl, by decide +kernel, by decide +kernel⟩⟩
theorem o_law_draw : EntOk G e_law_draw := ⟨fun call => by kernel_rfl, ⟨rfl, rfl, rfl, by decide +kernel, rfl, by decide +kernel, by decide +kernel⟩⟩
theorem o_law_table : EntOk G e_law_table := ⟨fun call => by kernel_rfl, ⟨rfl, rfl, rfl, by decide +kernel, rfl, by decide +kernel, by decide +kernel⟩⟩
theorem o_law_led_to : EntOk G e_law_led_to := ⟨fun call => by kernel_rfl, ⟨rfl, rfl, rfl, by decide +kernel, rfl, by decide +kernel, by decide +kernel⟩⟩
theorem o_law_is_end : EntOk G e_law_is_end := ⟨fun call => by kernel_rfl, ⟨rfl, rfl, rfl, by decide +kernel, rfl, by decide +kernel, by decide +kernel⟩⟩
theorem o_law_drawn_way : EntOk G e_law_drawn_way := ⟨fun call => by kernel_rfl, ⟨rfl, rfl, rfl, by decide +kernel, rfl, by decide +kernel, by decide +kernel⟩⟩
theorem o_law_true_fight : EntOk G e_law_true_fight := ⟨fun call => by kernel_rfl, ⟨rfl, rfl, rfl, by decide +kernel, rfl, by decide +kernel, by decide +kernel⟩⟩
theorem o_law_true_conflict : EntOk G e_law_true_conflict := ⟨fun call => by kernel_rfl, ⟨rfl, rfl, rfl, by decide +kernel, rfl, by decide +kernel, by decide +kernel⟩⟩
theorem o_law : EntOk G e_law := ⟨fun call => by kernel_rfl, ⟨rfl, rfl, rfl, by decide +kernel, rfl, by decide +kernel, by decide +kernel⟩⟩
set_option maxHeartbeats 0 in
theorem tab_mk {w : World} {K : PySem.W.Frag} {h : Heap} {mg : Str → Option Value} (X : K.In h) (G0 : h.Ns mainGlobals mg)
    {f0 f1 f2 f3 f4 f5 f6 f7 f8 f9 f10 f11 f12 f13 f14 f15 f16 f17 f18 f19 f20 f21 : Addr}
    {od0 an0 od1 an1 od2 an2 od3 an3 od4 an4 od5 an5 od6 an6 od7 an7 od8 an8 od9 an9 od10 an10 od11 an11 od12 an12 od13 an13 od14 an14 od15 an15 od16 an16 od17 an17 od18 an18 od19 an19 od20 an20 od21 an21 : Option Addr}
    {sl0 sl1 sl2 sl3 sl4 sl5 sl6 sl7 sl8 sl9 sl10 sl11 sl12 sl13 sl14 sl15 sl16 sl17 sl18 sl19 sl20 sl21 : Array (Option Value)}
    {oc0 kV0 dc0 pm0 cd0 ct0 oc1 kV1 dc1 pm1 cd1 ct1 oc2 kV2 dc2 pm2 cd2 ct2 oc3 kV3 dc3 pm3 cd3 ct3 oc4 kV4 dc4 pm4 cd4 ct4 oc5 kV5 dc5 pm5 cd5 ct5 oc6 kV6 dc6 pm6 cd6 ct6 oc7 kV7 dc7 pm7 cd7 ct7 oc8 kV8 dc8 pm8 cd8 ct8 oc9 kV9 dc9 pm9 cd9 ct9 oc10 kV10 dc10 pm10 cd10 ct10 oc11 kV11 dc11 pm11 cd11 ct11 oc12 kV12 dc12 pm12 cd12 ct12 oc13 kV13 dc13 pm13 cd13 ct13 oc14 kV14 dc14 pm14 cd14 ct14 oc15 kV15 dc15 pm15 cd15 ct15 oc16 kV16 dc16 pm16 cd16 ct16 oc17 kV17 dc17 pm17 cd17 ct17 oc18 kV18 dc18 pm18 cd18 ct18 oc19 kV19 dc19 pm19 cd19 ct19 oc20 kV20 dc20 pm20 cd20 ct20 oc21 kV21 dc21 pm21 cd21 ct21 : Value}
    (a0 : PySem.W.nsIn K mainGlobals "is_at_rest" = some (some (.ref f0))) (l0 : K.lookup f0 = some ⟨oc0, od0, .func (PySem.W.fnOf "is_at_rest" "is_at_rest" (defArgs (topS 1)) (defBody (topS 1)) (defScope (topS 1)) .none kV0 dc0 pm0 an0 cd0 ct0), sl0⟩) (c0 : PySem.W.codeIn K cd0 "is_at_rest" = true) (k0 : PySem.W.keepIn K (.ref f0) = true)
    (a1 : PySem.W.nsIn K mainGlobals "first_schedules" = some (some (.ref f1))) (l1 : K.lookup f1 = some ⟨oc1, od1, .func (PySem.W.fnOf "first_schedules" "first_schedules" (defArgs (topS 2)) (defBody (topS 2)) (defScope (topS 2)) .none kV1 dc1 pm1 an1 cd1 ct1), sl1⟩) (c1 : PySem.W.codeIn K cd1 "first_schedules" = true) (k1 : PySem.W.keepIn K (.ref f1) = true)
    (a2 : PySem.W.nsIn K mainGlobals "ends_from" = some (some (.ref f2))) (l2 : K.lookup f2 = some ⟨oc2, od2, .func (PySem.W.fnOf "ends_from" "ends_from" (defArgs (topS 3)) (defBody (topS 3)) (defScope (topS 3)) .none kV2 dc2 pm2 an2 cd2 ct2), sl2⟩) (c2 : PySem.W.codeIn K cd2 "ends_from" = true) (k2 : PySem.W.keepIn K (.ref f2) = true)
    (a3 : PySem.W.nsIn K mainGlobals "table_conflict" = some (some (.ref f3))) (l3 : K.lookup f3 = some ⟨oc3, od3, .func (PySem.W.fnOf "table_conflict" "table_conflict" (defArgs (topS 4)) (defBody (topS 4)) (defScope (topS 4)) .none kV3 dc3 pm3 an3 cd3 ct3), sl3⟩) (c3 : PySem.W.codeIn K cd3 "table_conflict" = true) (k3 : PySem.W.keepIn K (.ref f3) = true)
    (a4 : PySem.W.nsIn K mainGlobals "first_return" = some (some (.ref f4))) (l4 : K.lookup f4 = some ⟨oc4, od4, .func (PySem.W.fnOf "first_return" "first_return" (defArgs (topS 5)) (defBody (topS 5)) (defScope (topS 5)) .none kV4 dc4 pm4 an4 cd4 ct4), sl4⟩) (c4 : PySem.W.codeIn K cd4 "first_return" = true) (k4 : PySem.W.keepIn K (.ref f4) = true)
    (a5 : PySem.W.nsIn K mainGlobals "table_fight" = some (some (.ref f5))) (l5 : K.lookup f5 = some ⟨oc5, od5, .func (PySem.W.fnOf "table_fight" "table_fight" (defArgs (topS 6)) (defBody (topS 6)) (defScope (topS 6)) .none kV5 dc5 pm5 an5 cd5 ct5), sl5⟩) (c5 : PySem.W.codeIn K cd5 "table_fight" = true) (k5 : PySem.W.keepIn K (.ref f5) = true)
    (a6 : PySem.W.nsIn K mainGlobals "height_above" = some (some (.ref f6))) (l6 : K.lookup f6 = some ⟨oc6, od6, .func (PySem.W.fnOf "height_above" "height_above" (defArgs (topS 7)) (defBody (topS 7)) (defScope (topS 7)) .none kV6 dc6 pm6 an6 cd6 ct6), sl6⟩) (c6 : PySem.W.codeIn K cd6 "height_above" = true) (k6 : PySem.W.keepIn K (.ref f6) = true)
    (a7 : PySem.W.nsIn K mainGlobals "heights" = some (some (.ref f7))) (l7 : K.lookup f7 = some ⟨oc7, od7, .func (PySem.W.fnOf "heights" "heights" (defArgs (topS 8)) (defBody (topS 8)) (defScope (topS 8)) .none kV7 dc7 pm7 an7 cd7 ct7), sl7⟩) (c7 : PySem.W.codeIn K cd7 "heights" = true) (k7 : PySem.W.keepIn K (.ref f7) = true)
    (a8 : PySem.W.nsIn K mainGlobals "takes_ranks" = some (some (.ref f8))) (l8 : K.lookup f8 = some ⟨oc8, od8, .func (PySem.W.fnOf "takes_ranks" "takes_ranks" (defArgs (topS 9)) (defBody (topS 9)) (defScope (topS 9)) .none kV8 dc8 pm8 an8 cd8 ct8), sl8⟩) (c8 : PySem.W.codeIn K cd8 "takes_ranks" = true) (k8 : PySem.W.keepIn K (.ref f8) = true)
    (a9 : PySem.W.nsIn K mainGlobals "end_marks" = some (some (.ref f9))) (l9 : K.lookup f9 = some ⟨oc9, od9, .func (PySem.W.fnOf "end_marks" "end_marks" (defArgs (topS 10)) (defBody (topS 10)) (defScope (topS 10)) .none kV9 dc9 pm9 an9 cd9 ct9), sl9⟩) (c9 : PySem.W.codeIn K cd9 "end_marks" = true) (k9 : PySem.W.keepIn K (.ref f9) = true)
    (a10 : PySem.W.nsIn K mainGlobals "takes_open" = some (some (.ref f10))) (l10 : K.lookup f10 = some ⟨oc10, od10, .func (PySem.W.fnOf "takes_open" "takes_open" (defArgs (topS 11)) (defBody (topS 11)) (defScope (topS 11)) .none kV10 dc10 pm10 an10 cd10 ct10), sl10⟩) (c10 : PySem.W.codeIn K cd10 "takes_open" = true) (k10 : PySem.W.keepIn K (.ref f10) = true)
    (a11 : PySem.W.nsIn K mainGlobals "takes_end" = some (some (.ref f11))) (l11 : K.lookup f11 = some ⟨oc11, od11, .func (PySem.W.fnOf "takes_end" "takes_end" (defArgs (topS 12)) (defBody (topS 12)) (defScope (topS 12)) .none kV11 dc11 pm11 an11 cd11 ct11), sl11⟩) (c11 : PySem.W.codeIn K cd11 "takes_end" = true) (k11 : PySem.W.keepIn K (.ref f11) = true)
    (a12 : PySem.W.nsIn K mainGlobals "takes_marks" = some (some (.ref f12))) (l12 : K.lookup f12 = some ⟨oc12, od12, .func (PySem.W.fnOf "takes_marks" "takes_marks" (defArgs (topS 13)) (defBody (topS 13)) (defScope (topS 13)) .none kV12 dc12 pm12 an12 cd12 ct12), sl12⟩) (c12 : PySem.W.codeIn K cd12 "takes_marks" = true) (k12 : PySem.W.keepIn K (.ref f12) = true)
    (a13 : PySem.W.nsIn K mainGlobals "_law_tape" = some (some (.ref f13))) (l13 : K.lookup f13 = some ⟨oc13, od13, .func (PySem.W.fnOf "_law_tape" "_law_tape" (defArgs (topS 15)) (defBody (topS 15)) (defScope (topS 15)) .none kV13 dc13 pm13 an13 cd13 ct13), sl13⟩) (c13 : PySem.W.codeIn K cd13 "_law_tape" = true) (k13 : PySem.W.keepIn K (.ref f13) = true)
    (a14 : PySem.W.nsIn K mainGlobals "_law_draw" = some (some (.ref f14))) (l14 : K.lookup f14 = some ⟨oc14, od14, .func (PySem.W.fnOf "_law_draw" "_law_draw" (defArgs (topS 16)) (defBody (topS 16)) (defScope (topS 16)) .none kV14 dc14 pm14 an14 cd14 ct14), sl14⟩) (c14 : PySem.W.codeIn K cd14 "_law_draw" = true) (k14 : PySem.W.keepIn K (.ref f14) = true)
    (a15 : PySem.W.nsIn K mainGlobals "_law_table" = some (some (.ref f15))) (l15 : K.lookup f15 = some ⟨oc15, od15, .func (PySem.W.fnOf "_law_table" "_law_table" (defArgs (topS 17)) (defBody (topS 17)) (defScope (topS 17)) .none kV15 dc15 pm15 an15 cd15 ct15), sl15⟩) (c15 : PySem.W.codeIn K cd15 "_law_table" = true) (k15 : PySem.W.keepIn K (.ref f15) = true)
    (a16 : PySem.W.nsIn K mainGlobals "_law_led_to" = some (some (.ref f16))) (l16 : K.lookup f16 = some ⟨oc16, od16, .func (PySem.W.fnOf "_law_led_to" "_law_led_to" (defArgs (topS 18)) (defBody (topS 18)) (defScope (topS 18)) .none kV16 dc16 pm16 an16 cd16 ct16), sl16⟩) (c16 : PySem.W.codeIn K cd16 "_law_led_to" = true) (k16 : PySem.W.keepIn K (.ref f16) = true)
    (a17 : PySem.W.nsIn K mainGlobals "_law_is_end" = some (some (.ref f17))) (l17 : K.lookup f17 = some ⟨oc17, od17, .func (PySem.W.fnOf "_law_is_end" "_law_is_end" (defArgs (topS 19)) (defBody (topS 19)) (defScope (topS 19)) .none kV17 dc17 pm17 an17 cd17 ct17), sl17⟩) (c17 : PySem.W.codeIn K cd17 "_law_is_end" = true) (k17 : PySem.W.keepIn K (.ref f17) = true)
    (a18 : PySem.W.nsIn K mainGlobals "_law_drawn_way" = some (some (.ref f18))) (l18 : K.lookup f18 = some ⟨oc18, od18, .func (PySem.W.fnOf "_law_drawn_way" "_law_drawn_way" (defArgs (topS 20)) (defBody (topS 20)) (defScope (topS 20)) .none kV18 dc18 pm18 an18 cd18 ct18), sl18⟩) (c18 : PySem.W.codeIn K cd18 "_law_drawn_way" = true) (k18 : PySem.W.keepIn K (.ref f18) = true)
    (a19 : PySem.W.nsIn K mainGlobals "_law_true_fight" = some (some (.ref f19))) (l19 : K.lookup f19 = some ⟨oc19, od19, .func (PySem.W.fnOf "_law_true_fight" "_law_true_fight" (defArgs (topS 21)) (defBody (topS 21)) (defScope (topS 21)) .none kV19 dc19 pm19 an19 cd19 ct19), sl19⟩) (c19 : PySem.W.codeIn K cd19 "_law_true_fight" = true) (k19 : PySem.W.keepIn K (.ref f19) = true)
    (a20 : PySem.W.nsIn K mainGlobals "_law_true_conflict" = some (some (.ref f20))) (l20 : K.lookup f20 = some ⟨oc20, od20, .func (PySem.W.fnOf "_law_true_conflict" "_law_true_conflict" (defArgs (topS 22)) (defBody (topS 22)) (defScope (topS 22)) .none kV20 dc20 pm20 an20 cd20 ct20), sl20⟩) (c20 : PySem.W.codeIn K cd20 "_law_true_conflict" = true) (k20 : PySem.W.keepIn K (.ref f20) = true)
    (a21 : PySem.W.nsIn K mainGlobals "law" = some (some (.ref f21))) (l21 : K.lookup f21 = some ⟨oc21, od21, .func (PySem.W.fnOf "law" "law" (defArgs (topS 23)) (defBody (topS 23)) (defScope (topS 23)) .none kV21 dc21 pm21 an21 cd21 ct21), sl21⟩) (c21 : PySem.W.codeIn K cd21 "law" = true) (k21 : PySem.W.keepIn K (.ref f21) = true)
    (z0 : PySem.W.nsIn K mainGlobals "all" = some none)
    (z1 : PySem.W.nsIn K mainGlobals "tuple" = some none)
    (z2 : PySem.W.nsIn K mainGlobals "range" = some none)
    (z3 : PySem.W.nsIn K mainGlobals "enumerate" = some none)
    (z4 : PySem.W.nsIn K mainGlobals "len" = some none)
    (z5 : PySem.W.nsIn K mainGlobals "list" = some none)
    (z6 : PySem.W.nsIn K mainGlobals "max" = some none)
    (z7 : PySem.W.nsIn K mainGlobals "int" = some none)
    (z8 : PySem.W.nsIn K mainGlobals "isinstance" = some none)
    (z9 : PySem.W.nsIn K mainGlobals "abs" = some none)
    (z10 : PySem.W.nsIn K mainGlobals "bool" = some none) : TabOk ⟨K, w⟩ mg G T where
  st := by
    intro e he
    simp only [T, List.mem_cons, List.mem_nil_iff, or_false] at he
    rcases he with rfl | rfl | rfl | rfl | rfl | rfl | rfl | rfl | rfl | rfl | rfl | rfl | rfl | rfl | rfl | rfl | rfl | rfl | rfl | rfl | rfl | rfl
    · exact o_is_at_rest
    · exact o_first_schedules
    · exact o_ends_from
    · exact o_table_conflict
    · exact o_first_return
    · exact o_table_fight
    · exact o_height_above
    · exact o_heights
    · exact o_takes_ranks
    · exact o_end_marks
    · exact o_takes_open
    · exact o_takes_end
    · exact o_takes_marks
    · exact o_law_tape
    · exact o_law_draw
    · exact o_law_table
    · exact o_law_led_to
    · exact o_law_is_end
    · exact o_law_drawn_way
    · exact o_law_true_fight
    · exact o_law_true_conflict
    · exact o_law
  fn := by
    intro e he
    simp only [T, List.mem_cons, List.mem_nil_iff, or_false] at he
    rcases he with rfl | rfl | rfl | rfl | rfl | rfl | rfl | rfl | rfl | rfl | rfl | rfl | rfl | rfl | rfl | rfl | rfl | rfl | rfl | rfl | rfl | rfl
    · exact ⟨f0, _, fun_mk (st := topS 1) l0 c0 k0, PySem.W.mg_of X G0 a0, (fun_mk (st := topS 1) l0 c0 k0).binds (ps := ["row"]) fun _ _ _ _ _ _ us hl => match us, hl with | [_], _ => rfl⟩
    · exact ⟨f1, _, fun_mk (st := topS 2) l1 c1 k1, PySem.W.mg_of X G0 a1, (fun_mk (st := topS 2) l1 c1 k1).binds (ps := ["table", "state"]) fun _ _ _ _ _ _ us hl => match us, hl with | [_, _], _ => rfl⟩
    · exact ⟨f2, _, fun_mk (st := topS 3) l2 c2 k2, PySem.W.mg_of X G0 a2, (fun_mk (st := topS 3) l2 c2 k2).binds (ps := ["table", "state"]) fun _ _ _ _ _ _ us hl => match us, hl with | [_, _], _ => rfl⟩
    · exact ⟨f3, _, fun_mk (st := topS 4) l3 c3 k3, PySem.W.mg_of X G0 a3, (fun_mk (st := topS 4) l3 c3 k3).binds (ps := ["table"]) fun _ _ _ _ _ _ us hl => match us, hl with | [_], _ => rfl⟩
    · exact ⟨f4, _, fun_mk (st := topS 5) l4 c4 k4, PySem.W.mg_of X G0 a4, (fun_mk (st := topS 5) l4 c4 k4).binds (ps := ["table", "state"]) fun _ _ _ _ _ _ us hl => match us, hl with | [_, _], _ => rfl⟩
    · exact ⟨f5, _, fun_mk (st := topS 6) l5 c5 k5, PySem.W.mg_of X G0 a5, (fun_mk (st := topS 6) l5 c5 k5).binds (ps := ["table"]) fun _ _ _ _ _ _ us hl => match us, hl with | [_], _ => rfl⟩
    · exact ⟨f6, _, fun_mk (st := topS 7) l6 c6 k6, PySem.W.mg_of X G0 a6, (fun_mk (st := topS 7) l6 c6 k6).binds (ps := ["row", "known"]) fun _ _ _ _ _ _ us hl => match us, hl with | [_, _], _ => rfl⟩
    · exact ⟨f7, _, fun_mk (st := topS 8) l7 c7 k7, PySem.W.mg_of X G0 a7, (fun_mk (st := topS 8) l7 c7 k7).binds (ps := ["table"]) fun _ _ _ _ _ _ us hl => match us, hl with | [_], _ => rfl⟩
    · exact ⟨f8, _, fun_mk (st := topS 9) l8 c8 k8, PySem.W.mg_of X G0 a8, (fun_mk (st := topS 9) l8 c8 k8).binds (ps := ["table", "ranks"]) fun _ _ _ _ _ _ us hl => match us, hl with | [_, _], _ => rfl⟩
    · exact ⟨f9, _, fun_mk (st := topS 10) l9 c9 k9, PySem.W.mg_of X G0 a9, (fun_mk (st := topS 10) l9 c9 k9).binds (ps := ["table"]) fun _ _ _ _ _ _ us hl => match us, hl with | [_], _ => rfl⟩
    · exact ⟨f10, _, fun_mk (st := topS 11) l10 c10 k10, PySem.W.mg_of X G0 a10, (fun_mk (st := topS 11) l10 c10 k10).binds (ps := ["row", "marks"]) fun _ _ _ _ _ _ us hl => match us, hl with | [_, _], _ => rfl⟩
    · exact ⟨f11, _, fun_mk (st := topS 12) l11 c11 k11, PySem.W.mg_of X G0 a11, (fun_mk (st := topS 12) l11 c11 k11).binds (ps := ["row", "state", "marks"]) fun _ _ _ _ _ _ us hl => match us, hl with | [_, _, _], _ => rfl⟩
    · exact ⟨f12, _, fun_mk (st := topS 13) l12 c12 k12, PySem.W.mg_of X G0 a12, (fun_mk (st := topS 13) l12 c12 k12).binds (ps := ["table", "marks"]) fun _ _ _ _ _ _ us hl => match us, hl with | [_, _], _ => rfl⟩
    · exact ⟨f13, _, fun_mk (st := topS 15) l13 c13 k13, PySem.W.mg_of X G0 a13, (fun_mk (st := topS 15) l13 c13 k13).binds (ps := ["script"]) fun _ _ _ _ _ _ us hl => match us, hl with | [_], _ => rfl⟩
    · exact ⟨f14, _, fun_mk (st := topS 16) l14 c14 k14, PySem.W.mg_of X G0 a14, (fun_mk (st := topS 16) l14 c14 k14).binds (ps := ["tape", "many"]) fun _ _ _ _ _ _ us hl => match us, hl with | [_, _], _ => rfl⟩
    · exact ⟨f15, _, fun_mk (st := topS 17) l15 c15 k15, PySem.W.mg_of X G0 a15, (fun_mk (st := topS 17) l15 c15 k15).binds (ps := ["tape"]) fun _ _ _ _ _ _ us hl => match us, hl with | [_], _ => rfl⟩
    · exact ⟨f16, _, fun_mk (st := topS 18) l16 c16 k16, PySem.W.mg_of X G0 a16, (fun_mk (st := topS 18) l16 c16 k16).binds (ps := ["table", "state", "schedule"]) fun _ _ _ _ _ _ us hl => match us, hl with | [_, _, _], _ => rfl⟩
    · exact ⟨f17, _, fun_mk (st := topS 19) l17 c17 k17, PySem.W.mg_of X G0 a17, (fun_mk (st := topS 19) l17 c17 k17).binds (ps := ["table", "state"]) fun _ _ _ _ _ _ us hl => match us, hl with | [_, _], _ => rfl⟩
    · exact ⟨f18, _, fun_mk (st := topS 20) l18 c18 k18, PySem.W.mg_of X G0 a18, (fun_mk (st := topS 20) l18 c18 k18).binds (ps := ["tape", "table"]) fun _ _ _ _ _ _ us hl => match us, hl with | [_, _], _ => rfl⟩
    · exact ⟨f19, _, fun_mk (st := topS 21) l19 c19 k19, PySem.W.mg_of X G0 a19, (fun_mk (st := topS 21) l19 c19 k19).binds (ps := ["table", "told"]) fun _ _ _ _ _ _ us hl => match us, hl with | [_, _], _ => rfl⟩
    · exact ⟨f20, _, fun_mk (st := topS 22) l20 c20 k20, PySem.W.mg_of X G0 a20, (fun_mk (st := topS 22) l20 c20 k20).binds (ps := ["table", "told"]) fun _ _ _ _ _ _ us hl => match us, hl with | [_, _], _ => rfl⟩
    · exact ⟨f21, _, fun_mk (st := topS 23) l21 c21 k21, PySem.W.mg_of X G0 a21, (fun_mk (st := topS 23) l21 c21 k21).binds (ps := ["script"]) fun _ _ _ _ _ _ us hl => match us, hl with | [_], _ => rfl⟩
  gl := fun x b e => by
    have e2 := look_mem e
    simp only [G, List.mem_cons, List.mem_nil_iff, or_false, Prod.mk.injEq, reduceCtorEq, and_false, false_or, GE.blt.injEq] at e2
    rcases e2 with ⟨rfl, rfl⟩ | ⟨rfl, rfl⟩ | ⟨rfl, rfl⟩ | ⟨rfl, rfl⟩ | ⟨rfl, rfl⟩ | ⟨rfl, rfl⟩ | ⟨rfl, rfl⟩ | ⟨rfl, rfl⟩ | ⟨rfl, rfl⟩ | ⟨rfl, rfl⟩ | ⟨rfl, rfl⟩
    · exact ⟨PySem.W.mg_none_of X G0 z0, rfl⟩
    · exact ⟨PySem.W.mg_none_of X G0 z1, rfl⟩
    · exact ⟨PySem.W.mg_none_of X G0 z2, rfl⟩
    · exact ⟨PySem.W.mg_none_of X G0 z3, rfl⟩
    · exact ⟨PySem.W.mg_none_of X G0 z4, rfl⟩
    · exact ⟨PySem.W.mg_none_of X G0 z5, rfl⟩
    · exact ⟨PySem.W.mg_none_of X G0 z6, rfl⟩
    · exact ⟨PySem.W.mg_none_of X G0 z7, rfl⟩
    · exact ⟨PySem.W.mg_none_of X G0 z8, rfl⟩
    · exact ⟨PySem.W.mg_none_of X G0 z9, rfl⟩
    · exact ⟨PySem.W.mg_none_of X G0 z10, rfl⟩
  gc := fun x d e => by
    have e2 := look_mem e
    simp only [G, List.mem_cons, List.mem_nil_iff, or_false, Prod.mk.injEq, reduceCtorEq, and_false, false_or, GE.con.injEq] at e2
  gf := fun x n e => by
    have e2 := look_mem e
    simp only [G, List.mem_cons, List.mem_nil_iff, or_false, Prod.mk.injEq, reduceCtorEq, and_false, false_or, GE.fn.injEq] at e2
    rcases e2 with ⟨rfl, rfl⟩ | ⟨rfl, rfl⟩ | ⟨rfl, rfl⟩ | ⟨rfl, rfl⟩ | ⟨rfl, rfl⟩ | ⟨rfl, rfl⟩ | ⟨rfl, rfl⟩ | ⟨rfl, rfl⟩ | ⟨rfl, rfl⟩ | ⟨rfl, rfl⟩ | ⟨rfl, rfl⟩ | ⟨rfl, rfl⟩ | ⟨rfl, rfl⟩ | ⟨rfl, rfl⟩ | ⟨rfl, rfl⟩ | ⟨rfl, rfl⟩ | ⟨rfl, rfl⟩ | ⟨rfl, rfl⟩ | ⟨rfl, rfl⟩ | ⟨rfl, rfl⟩ | ⟨rfl, rfl⟩ | ⟨rfl, rfl⟩
    · exact ⟨e_is_at_rest, by kernel_rfl, rfl, rfl⟩
    · exact ⟨e_first_schedules, by kernel_rfl, rfl, rfl⟩
    · exact ⟨e_ends_from, by kernel_rfl, rfl, rfl⟩
    · exact ⟨e_table_conflict, by kernel_rfl, rfl, rfl⟩
    · exact ⟨e_first_return, by kernel_rfl, rfl, rfl⟩
    · exact ⟨e_table_fight, by kernel_rfl, rfl, rfl⟩
    · exact ⟨e_height_above, by kernel_rfl, rfl, rfl⟩
    · exact ⟨e_heights, by kernel_rfl, rfl, rfl⟩
    · exact ⟨e_takes_ranks, by kernel_rfl, rfl, rfl⟩
    · exact ⟨e_end_marks, by kernel_rfl, rfl, rfl⟩
    · exact ⟨e_takes_open, by kernel_rfl, rfl, rfl⟩
    · exact ⟨e_takes_end, by kernel_rfl, rfl, rfl⟩
    · exact ⟨e_takes_marks, by kernel_rfl, rfl, rfl⟩
    · exact ⟨e_law_tape, by kernel_rfl, rfl, rfl⟩
    · exact ⟨e_law_draw, by kernel_rfl, rfl, rfl⟩
    · exact ⟨e_law_table, by kernel_rfl, rfl, rfl⟩
    · exact ⟨e_law_led_to, by kernel_rfl, rfl, rfl⟩
    · exact ⟨e_law_is_end, by kernel_rfl, rfl, rfl⟩
    · exact ⟨e_law_drawn_way, by kernel_rfl, rfl, rfl⟩
    · exact ⟨e_law_true_fight, by kernel_rfl, rfl, rfl⟩
    · exact ⟨e_law_true_conflict, by kernel_rfl, rfl, rfl⟩
    · exact ⟨e_law, by kernel_rfl, rfl, rfl⟩
  gk := fun x n ks e => by
    have e2 := look_mem e
    simp only [G, List.mem_cons, List.mem_nil_iff, or_false, Prod.mk.injEq, reduceCtorEq, and_false, false_or, GE.fk.injEq] at e2
theorem all_mk {l : PySem.W.OpenLaw} {w : World} {K : PySem.W.Frag} {h : Heap} {mg : Str → Option Value} {fa : Addr} (X : K.In h) (G0 : h.Ns mainGlobals mg) (hfa : mg "law" = some (.ref fa)) (tab : TabOk ⟨K, w⟩ mg G T) :
    ∃ fd : FuncData, (∀ (s : Shared) (v : Value), BindsTo s fd ⟨[v], []⟩ [("script", v)]) ∧ ∀ base : Heap, K.In base → base.Ns mainGlobals mg → FnOk l.prog w K mg base CX0 50 fa fd ["script"] (SpD ⟨K, w⟩ 1 (run T 50 "law")) := by
  have e : entAt T "law" = some e_law := by kernel_rfl
  obtain ⟨f, fd, h1, _, _, h4, _⟩ := fn_all (P := l.prog) (w := w) (base := h) tab 50 "law" e_law e
  rw [hfa] at h1
  cases h1
  obtain ⟨oc, od, kV, doc, pm, an, cdv, ct, osl, rfl, lk, hcd⟩ := h4.ex
  refine ⟨PySem.W.fnOf "law" "law" (defArgs (topS 23)) (defBody (topS 23)) (defScope (topS 23)) .none kV doc pm an cdv ct, fun s v => .of_eq rfl, fun base _ _ => ?_⟩
  obtain ⟨f2, fd2, g1, _, _, g4, g5⟩ := fn_all (P := l.prog) (w := w) (base := base) tab 50 "law" e_law e
  rw [hfa] at g1
  cases g1
  obtain ⟨oc2, od2, kV2, doc2, pm2, an2, cdv2, ct2, osl2, rfl, lk2, hcd2⟩ := g4.ex
  rw [lk] at lk2
  cases lk2
  exact g5
end L2.Pv
open PySem PySem.W PyProof.Rows
set_option maxHeartbeats 0 in
theorem PySem.Challenge.cw_hookcheck_k78_whole_certificates_holds : PySem.Challenge.rw_hookcheck_k78_whole_certificates.Holds := by
  w_on; o_law; k_head; (case hw => w_witness2)
  k_fill
  refine L2.walk_of (l := PySem.Challenge.rw_hookcheck_k78_whole_certificates) (n := 63) (k := 50) (x := "script") (CX := fun _ => L2.CX0) (sp := fun w => L2.Pv.SpD ⟨_, w⟩ 1 (L2.Pv.run L2.Pv.T 50 "law")) rfl (by decide) rfl ⟨rfl, by decide, by decide⟩ (fun w h Y => PySem.W.kIn_of Y) ?F (fun _ _ a ns hl _ hS => L2.Pv.law_sp hS (L2.Pv.law_true ns hl)) (fun _ _ _ _ _ h => h)
  case F =>
    intro w mg fa h KX G0 hmg
    refine' L2.Pv.all_mk KX G0 hmg (L2.Pv.tab_mk KX G0 ?a0 ?l0 ?c0 ?k0 ?a1 ?l1 ?c1 ?k1 ?a2 ?l2 ?c2 ?k2 ?a3 ?l3 ?c3 ?k3 ?a4 ?l4 ?c4 ?k4 ?a5 ?l5 ?c5 ?k5 ?a6 ?l6 ?c6 ?k6 ?a7 ?l7 ?c7 ?k7 ?a8 ?l8 ?c8 ?k8 ?a9 ?l9 ?c9 ?k9 ?a10 ?l10 ?c10 ?k10 ?a11 ?l11 ?c11 ?k11 ?a12 ?l12 ?c12 ?k12 ?a13 ?l13 ?c13 ?k13 ?a14 ?l14 ?c14 ?k14 ?a15 ?l15 ?c15 ?k15 ?a16 ?l16 ?c16 ?k16 ?a17 ?l17 ?c17 ?k17 ?a18 ?l18 ?c18 ?k18 ?a19 ?l19 ?c19 ?k19 ?a20 ?l20 ?c20 ?k20 ?a21 ?l21 ?c21 ?k21 ?z0 ?z1 ?z2 ?z3 ?z4 ?z5 ?z6 ?z7 ?z8 ?z9 ?z10)
    (case a0 => k_is); (case l0 => k_is); (case c0 => k_is); (case k0 => k_is); (case a1 => k_is); (case l1 => k_is); (case c1 => k_is); (case k1 => k_is); (case a2 => k_is); (case l2 => k_is); (case c2 => k_is); (case k2 => k_is); (case a3 => k_is); (case l3 => k_is); (case c3 => k_is); (case k3 => k_is); (case a4 => k_is); (case l4 => k_is); (case c4 => k_is); (case k4 => k_is); (case a5 => k_is); (case l5 => k_is); (case c5 => k_is); (case k5 => k_is); (case a6 => k_is); (case l6 => k_is); (case c6 => k_is); (case k6 => k_is); (case a7 => k_is); (case l7 => k_is); (case c7 => k_is); (case k7 => k_is); (case a8 => k_is); (case l8 => k_is); (case c8 => k_is); (case k8 => k_is); (case a9 => k_is); (case l9 => k_is); (case c9 => k_is); (case k9 => k_is); (case a10 => k_is); (case l10 => k_is); (case c10 => k_is); (case k10 => k_is); (case a11 => k_is); (case l11 => k_is); (case c11 => k_is); (case k11 => k_is); (case a12 => k_is); (case l12 => k_is); (case c12 => k_is); (case k12 => k_is); (case a13 => k_is); (case l13 => k_is); (case c13 => k_is); (case k13 => k_is); (case a14 => k_is); (case l14 => k_is); (case c14 => k_is); (case k14 => k_is); (case a15 => k_is); (case l15 => k_is); (case c15 => k_is); (case k15 => k_is); (case a16 => k_is); (case l16 => k_is); (case c16 => k_is); (case k16 => k_is); (case a17 => k_is); (case l17 => k_is); (case c17 => k_is); (case k17 => k_is); (case a18 => k_is); (case l18 => k_is); (case c18 => k_is); (case k18 => k_is); (case a19 => k_is); (case l19 => k_is); (case c19 => k_is); (case k19 => k_is); (case a20 => k_is); (case l20 => k_is); (case c20 => k_is); (case k20 => k_is); (case a21 => k_is); (case l21 => k_is); (case c21 => k_is); (case k21 => k_is); (case z0 => k_is); (case z1 => k_is); (case z2 => k_is); (case z3 => k_is); (case z4 => k_is); (case z5 => k_is); (case z6 => k_is); (case z7 => k_is); (case z8 => k_is); (case z9 => k_is); (case z10 => k_is)

