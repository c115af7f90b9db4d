import PyProof.Rows.All
import HandS.ForMost
import HandS.IsInst
import HandS.TupAny
import HandS.Deep
import HandS.Conv
import KE.DataCmp
import HandS.StrMore
import HandS.Wide
import HandS.Zip
import HandS.Rev
import HandS.Style
import HandS.Strs
import KE.SortData
import PySem.Challenge.RW_hookcheck_k08_order_of_scalars
set_option Elab.async false
set_option linter.all false
set_option maxRecDepth 100000
/-! Pv: a small language of values with a store of changing objects; what its functions mean, and that the model does so. -/
namespace L2.Pv
open PySem PySem.Spec PyProof.Rows L2

/-! ### values by what they show -/
/-- a tuple, a list that nobody changes: read, not among the addresses m -/
def TupAt (K : PySem.W.Frag) (H : Hp) (m : List Addr) (a : Addr) (xs : List V) : Prop :=
  (Rd H a (.tup xs) ∧ a ∉ m) ∨ ∃ (o : Obj) (its : Array Value) (n : Nat), K.lookup a = some o ∧ o.cls = .type "tuple" ∧ o.dict = none ∧ o.data = .seq its n ∧ its.size ≤ sizeLine ∧ Vals xs its.toList
/-- a list that is tracked or locked -/
def LsAt (H : Hp) (m : List Addr) (a : Addr) (xs : List V) : Prop := H a = some (.lst xs) ∧ a ∉ m
def LstAt (K : PySem.W.Frag) (H : Hp) (m : List Addr) (a : Addr) (xs : List V) : Prop :=
  (Rd H a (.lst xs) ∧ a ∉ m) ∨ ∃ (o : Obj) (its : Array Value) (n : Nat), K.lookup a = some o ∧ o.cls = .type "list" ∧ o.dict = none ∧ o.data = .seq its n ∧ its.size ≤ sizeLine ∧ Vals xs its.toList
theorem TupAt.sq {K : PySem.W.Frag} {H : Hp} {m : List Addr} {a : Addr} {xs : List V} (h : TupAt K H m a xs) : SqT K H a xs := by
  rcases h with ⟨h, _⟩ | ⟨o, its, n, h1, h2, _, h3⟩
  · exact .inl h
  · exact .inr ⟨o, its, n, h1, h2, h3⟩
theorem LsAt.at {K : PySem.W.Frag} {H : Hp} {m : List Addr} {a : Addr} {xs : List V} (h : LsAt H m a xs) : LstAt K H m a xs := .inl ⟨.inl h.1, h.2⟩
theorem LsAt.sq {K : PySem.W.Frag} {H : Hp} {m : List Addr} {a : Addr} {xs : List V} (h : LsAt H m a xs) : SqL K H a xs := .inl (.inl h.1)
theorem LstAt.sq {K : PySem.W.Frag} {H : Hp} {m : List Addr} {a : Addr} {xs : List V} (h : LstAt K H m a xs) : SqL K H a xs := by
  rcases h with ⟨h, _⟩ | h
  · exact .inl h
  · exact .inr h

mutual
inductive Rp (K : PySem.W.Frag) (H : Hp) (m : List Addr) : V → PyData → Prop
  | non : Rp K H m .non .none
  | bl (b : Bool) : Rp K H m (.bl b) (.bool b)
  | int (i : Int) : Rp K H m (.int i) (.int i)
  | str (x : Str) (ok : PySem.PyData.strOk x = true) : Rp K H m (.str x) (.str x)
  | lst {a : Addr} {xs : List V} {ds : List PyData} : LsAt H m a xs → RpL K H m xs ds → Rp K H m (.ref a) (.list ds)
  | tup {a : Addr} {xs : List V} {ds : List PyData} : TupAt K H m a xs → RpL K H m xs ds → Rp K H m (.ref a) (.tuple ds)
inductive RpL (K : PySem.W.Frag) (H : Hp) (m : List Addr) : List V → List PyData → Prop
  | nil : RpL K H m [] []
  | cons {v : V} {vs : List V} {d : PyData} {ds : List PyData} : Rp K H m v d → RpL K H m vs ds → RpL K H m (v :: vs) (d :: ds)
end

section
variable {K : PySem.W.Frag} {H H' : Hp} {m m' : List Addr}
mutual
theorem Rp.dp : ∀ (d : PyData) (v : V), Rp K H m v d → Dp K H v d
  | .none, _, h => by cases h; exact .non
  | .bool b, _, h => by cases h; exact .bl b
  | .int i, _, h => by cases h; exact .int i
  | .str x, _, h => by
    cases h with
    | str _ ok => exact .str x
  | .list ds, _, h => by
    cases h with
    | lst a b => exact .lst a.sq (RpL.dp ds _ b)
  | .tuple ds, _, h => by
    cases h with
    | tup a b => exact .tup a.sq (RpL.dp ds _ b)
  | .dict _, _, h => by cases h
theorem RpL.dp : ∀ (ds : List PyData) (vs : List V), RpL K H m vs ds → DpAll K H vs ds
  | [], _, h => by cases h; exact .nil
  | d :: ds, _, h => by
    cases h with
    | cons a b => exact .cons (Rp.dp d _ a) (RpL.dp ds _ b)
end
/-- what is needed to carry a showing over -/
structure Cov (m : List Addr) (H : Hp) (m' : List Addr) (H' : Hp) : Prop where
  keep : ∀ a o, H a = some o → a ∉ m → H' a = some o
  out : ∀ a o, H a = some o → a ∉ m → a ∉ m'
theorem TupAt.cov (c : Cov m H m' H') {a : Addr} {xs : List V} (h : TupAt K H m a xs) : TupAt K H' m' a xs := by
  rcases h with ⟨h | ⟨o, h⟩, n⟩ | h
  · exact .inl ⟨.inl (c.keep _ _ h n), c.out _ _ h n⟩
  · exact .inl ⟨.inr ⟨o, c.keep _ _ h n⟩, c.out _ _ h n⟩
  · exact .inr h
theorem LsAt.cov (c : Cov m H m' H') {a : Addr} {xs : List V} (h : LsAt H m a xs) : LsAt H' m' a xs := by
  obtain ⟨h, n⟩ := h
  exact ⟨c.keep _ _ h n, c.out _ _ h n⟩
theorem LstAt.cov (c : Cov m H m' H') {a : Addr} {xs : List V} (h : LstAt K H m a xs) : LstAt K H' m' a xs := by
  rcases h with ⟨h | ⟨o, h⟩, n⟩ | h
  · exact .inl ⟨.inl (c.keep _ _ h n), c.out _ _ h n⟩
  · exact .inl ⟨.inr ⟨o, c.keep _ _ h n⟩, c.out _ _ h n⟩
  · exact .inr h
mutual
theorem Rp.cov (c : Cov m H m' H') : ∀ (d : PyData) (v : V), Rp K H m v d → Rp K H' m' v d
  | .none, _, h => by cases h; exact .non
  | .bool b, _, h => by cases h; exact .bl b
  | .int i, _, h => by cases h; exact .int i
  | .str x, _, h => by
    cases h with
    | str _ ok => exact .str x ok
  | .list ds, _, h => by
    cases h with
    | lst a b => exact .lst (a.cov c) (RpL.cov c ds _ b)
  | .tuple ds, _, h => by
    cases h with
    | tup a b => exact .tup (a.cov c) (RpL.cov c ds _ b)
  | .dict _, _, h => by cases h
theorem RpL.cov (c : Cov m H m' H') : ∀ (ds : List PyData) (vs : List V), RpL K H m vs ds → RpL K H' m' vs ds
  | [], _, h => by cases h; exact .nil
  | d :: ds, _, h => by
    cases h with
    | cons a b => exact .cons (Rp.cov c d _ a) (RpL.cov c ds _ b)
end
theorem Cov.refl : Cov m H m H := ⟨fun _ _ h _ => h, fun _ _ _ n => n⟩
theorem Cov.less (s : ∀ a ∈ m', a ∈ m) : Cov m H m' H := ⟨fun _ _ h _ => h, fun a _ _ n z => n (s a z)⟩
/-- from the empty heap: what stands in the written part -/
def HN : Hp := fun _ => none
theorem Cov.base : Cov m HN m' H' := ⟨fun _ _ h _ => absurd h (fun z => by cases z), fun _ _ h _ => absurd h (fun z => by cases z)⟩
mutual
theorem Rp.lay : ∀ (d : PyData) (v : V), Rp K H m v d → d.canLay0 = true
  | .none, _, h => rfl
  | .bool b, _, h => rfl
  | .int i, _, h => rfl
  | .str x, _, h => by
    cases h with
    | str _ ok => exact ok
  | .list ds, _, h => by
    cases h with
    | lst a b => exact RpL.lay ds _ b
  | .tuple ds, _, h => by
    cases h with
    | tup a b => exact RpL.lay ds _ b
  | .dict _, _, h => by cases h
theorem RpL.lay : ∀ (ds : List PyData) (vs : List V), RpL K H m vs ds → PyData.canLayAll0 ds = true
  | [], _, h => rfl
  | d :: ds, _, h => by
    cases h with
    | cons a b => show (d.canLay0 && PyData.canLayAll0 ds) = true; rw [Rp.lay d _ a, RpL.lay ds _ b]; rfl
end
theorem RpL.length : ∀ {ds : List PyData} {vs : List V}, RpL K H m vs ds → vs.length = ds.length
  | [], _, h => by cases h; rfl
  | d :: ds, _, h => by
    cases h with
    | cons a b => show _ + 1 = _ + 1; rw [RpL.length b]
theorem RpL.get : ∀ {ds : List PyData} {vs : List V} {i : Nat} {d : PyData}, RpL K H m vs ds → ds[i]? = some d → ∃ v, vs[i]? = some v ∧ Rp K H m v d
  | [], _, _, _, _, e => by simp at e
  | d :: ds, _, 0, _, h, e => by
    cases h with
    | cons a b =>
      simp at e
      subst e
      exact ⟨_, rfl, a⟩
  | d :: ds, _, i + 1, _, h, e => by
    cases h with
    | cons a b =>
      obtain ⟨v, h1, h2⟩ := RpL.get (i := i) b (by simpa using e)
      exact ⟨v, by simpa using h1, h2⟩
theorem RpL.getV : ∀ {ds : List PyData} {vs : List V} {i : Nat} {v : V}, RpL K H m vs ds → vs[i]? = some v → ∃ d, ds[i]? = some d ∧ Rp K H m v d := fun {ds vs i v} h e => by
  have hl := h.length
  have hi : i < vs.length := (List.getElem?_eq_some_iff.mp e).1
  obtain ⟨v', h1, h2⟩ := h.get (d := ds[i]) (List.getElem?_eq_getElem (by omega))
  rw [e] at h1
  cases h1
  exact ⟨_, List.getElem?_eq_getElem (by omega), h2⟩
theorem RpL.append : ∀ {ds es : List PyData} {vs ws : List V}, RpL K H m vs ds → RpL K H m ws es → RpL K H m (vs ++ ws) (ds ++ es)
  | [], _, _, _, h, q => by cases h; exact q
  | d :: ds, _, _, _, h, q => by
    cases h with
    | cons a b => exact .cons a (RpL.append b q)
theorem RpL.snoc {ds : List PyData} {d : PyData} {vs : List V} {v : V} (h : RpL K H m vs ds) (q : Rp K H m v d) : RpL K H m (vs ++ [v]) (ds ++ [d]) := h.append (.cons q .nil)
theorem RpL.take : ∀ (n : Nat) {ds : List PyData} {vs : List V}, RpL K H m vs ds → RpL K H m (vs.take n) (ds.take n)
  | 0, _, _, _ => .nil
  | n + 1, [], _, h => by cases h; exact .nil
  | n + 1, d :: ds, _, h => by
    cases h with
    | cons a b => exact .cons a (RpL.take n b)
theorem RpL.drop : ∀ (n : Nat) {ds : List PyData} {vs : List V}, RpL K H m vs ds → RpL K H m (vs.drop n) (ds.drop n)
  | 0, _, _, h => h
  | n + 1, [], _, h => by cases h; exact .nil
  | n + 1, d :: ds, _, h => by
    cases h with
    | cons a b => exact RpL.drop n b
theorem RpL.set : ∀ (i : Nat) {ds : List PyData} {vs : List V} {d : PyData} {v : V}, RpL K H m vs ds → Rp K H m v d → RpL K H m (vs.set i v) (ds.set i d)
  | _, [], _, _, _, h, _ => by cases h; exact .nil
  | 0, d :: ds, _, _, _, h, q => by
    cases h with
    | cons a b => exact .cons q b
  | i + 1, d :: ds, _, _, _, h, q => by
    cases h with
    | cons a b => exact .cons a (RpL.set i b q)
theorem RpL.map {α : Type} {f : α → V} {g : α → PyData} (h : ∀ a, Rp K H m (f a) (g a)) : ∀ l : List α, RpL K H m (l.map f) (l.map g)
  | [] => .nil
  | a :: l => .cons (h a) (RpL.map h l)
theorem RpL.reverse : ∀ {ds : List PyData} {vs : List V}, RpL K H m vs ds → RpL K H m vs.reverse ds.reverse
  | [], _, h => by cases h; exact .nil
  | d :: ds, _, h => by
    cases h with
    | cons a b =>
      rw [List.reverse_cons, List.reverse_cons]
      exact (RpL.reverse b).snoc a
end

/-! ### the store of what changes -/
inductive Ob where
  | lst (ds : List PyData)
  | dct (kvs : List (PyData × PyData))
abbrev Sto := List Ob
/-- a value at hand: data, or an object of the store by its place -/
inductive Vl where
  | d (x : PyData)
  | o (n : Nat)
  | k (ds : List PyData)
abbrev Env := List (Option Vl)

def keyD : Key → PyData
  | .inl i => .int i
  | .inr x => .str x
inductive RpK (K : PySem.W.Frag) (H : Hp) (m : List Addr) : List (Key × V) → List (PyData × PyData) → Prop
  | nil : RpK K H m [] []
  | cons {k : Key} {v : V} {d : PyData} {l : List (Key × V)} {ds : List (PyData × PyData)} : Rp K H m v d → RpK K H m l ds → RpK K H m ((k, v) :: l) ((keyD k, d) :: ds)
inductive RpT (K : PySem.W.Frag) (H : Hp) (m : List Addr) : List (List Key × V) → List (PyData × PyData) → Prop
  | nil : RpT K H m [] []
  | cons {k : List Key} {v : V} {d : PyData} {l : List (List Key × V)} {ds : List (PyData × PyData)} : Rp K H m v d → RpT K H m l ds → RpT K H m ((k, v) :: l) ((.tuple (k.map keyD), d) :: ds)
def ObR (K : PySem.W.Frag) (H : Hp) (m : List Addr) (a : Addr) : Ob → Prop
  | .lst ds => ∃ xs, H a = some (.lst xs) ∧ RpL K H m xs ds
  | .dct kds => (∃ kvs, H a = some (.dK kvs) ∧ RpK K H m kvs kds) ∨ (∃ kvs, H a = some (.dT kvs) ∧ RpT K H m kvs kds)
section
variable {K : PySem.W.Frag} {H H' : Hp} {m m' : List Addr}
theorem RpK.cov (c : Cov m H m' H') {l : List (Key × V)} {ds : List (PyData × PyData)} (h : RpK K H m l ds) : RpK K H' m' l ds := by
  induction h with
  | nil => exact .nil
  | cons a b ih => exact .cons (Rp.cov c _ _ a) ih
theorem RpT.cov (c : Cov m H m' H') {l : List (List Key × V)} {ds : List (PyData × PyData)} (h : RpT K H m l ds) : RpT K H' m' l ds := by
  induction h with
  | nil => exact .nil
  | cons a b ih => exact .cons (Rp.cov c _ _ a) ih
theorem ObR.cov (c : Cov m H m' H') {a : Addr} {o : Ob} (e : H' a = H a) (h : ObR K H m a o) : ObR K H' m' a o := by
  cases o with
  | lst ds =>
    obtain ⟨xs, h1, h2⟩ := h
    exact ⟨xs, e.trans h1, RpL.cov c _ _ h2⟩
  | dct kds =>
    rcases h with ⟨kvs, h1, h2⟩ | ⟨kvs, h1, h2⟩
    · exact .inl ⟨kvs, e.trans h1, h2.cov c⟩
    · exact .inr ⟨kvs, e.trans h1, h2.cov c⟩
theorem ObR.trk {a : Addr} {o : Ob} (h : ObR K H m a o) : H a ≠ none := by
  cases o with
  | lst ds => obtain ⟨xs, h1, _⟩ := h; rw [h1]; exact fun z => by cases z
  | dct kds => rcases h with ⟨kvs, h1, _⟩ | ⟨kvs, h1, _⟩ <;> (rw [h1]; exact fun z => by cases z)
end
/-- the store S at the addresses ρ; τ: addresses that change besides (a comprehension's list) -/
structure StR (K : PySem.W.Frag) (ρ τ : List Addr) (S : Sto) (H : Hp) : Prop where
  nd : ρ.Nodup
  ap : ∀ a ∈ ρ, a ∉ τ
  tk : ∀ a ∈ τ, H a ≠ none
  all : Paired (fun a o => ObR K H (ρ ++ τ) a o) ρ S
/-- a later state: the store may have grown at the end -/
structure Ext (ρ τ : List Addr) (H : Hp) (ρ' : List Addr) (H' : Hp) : Prop where
  pre : ∃ new, ρ' = ρ ++ new ∧ ∀ a ∈ new, H a = none
  keep : ∀ a o, H a = some o → a ∉ ρ → H' a = some o
  trk : ∀ a ∈ ρ', H' a ≠ none
section
variable {K : PySem.W.Frag} {H H' H1 H2 : Hp} {ρ ρ' ρ1 ρ2 τ : List Addr} {S S' : Sto}
theorem pairedGet {α β : Type} {F : α → β → Prop} : ∀ {l : List α} {r : List β} {i : Nat} {a : α}, Paired F l r → l[i]? = some a → ∃ b, r[i]? = some b ∧ F a b
  | _, _, _, _, .nil, e => by simp at e
  | _, _, 0, _, .cons h t, e => by
    simp at e
    subst e
    exact ⟨_, rfl, h⟩
  | _, _, i + 1, _, .cons h t, e => by
    obtain ⟨b, h1, h2⟩ := pairedGet (i := i) t (by simpa using e)
    exact ⟨b, by simpa using h1, h2⟩
theorem pairedGetR {α β : Type} {F : α → β → Prop} : ∀ {l : List α} {r : List β} {i : Nat} {b : β}, Paired F l r → r[i]? = some b → ∃ a, l[i]? = some a ∧ F a b
  | _, _, _, _, .nil, e => by simp at e
  | _, _, 0, _, .cons h t, e => by
    simp at e
    subst e
    exact ⟨_, rfl, h⟩
  | _, _, i + 1, _, .cons h t, e => by
    obtain ⟨b, h1, h2⟩ := pairedGetR (i := i) t (by simpa using e)
    exact ⟨b, by simpa using h1, h2⟩
theorem pairedMem {α β : Type} {F : α → β → Prop} : ∀ {l : List α} {r : List β} {a : α}, Paired F l r → a ∈ l → ∃ b, b ∈ r ∧ F a b
  | _, _, _, .cons h t, hm => by
    rcases List.mem_cons.mp hm with rfl | hm
    · exact ⟨_, List.mem_cons_self, h⟩
    · obtain ⟨b, h1, h2⟩ := pairedMem t hm
      exact ⟨b, List.mem_cons_of_mem _ h1, h2⟩
theorem pairedMono {α β : Type} {F G : α → β → Prop} : ∀ {l : List α} {r : List β}, Paired F l r → (∀ a b, a ∈ l → F a b → G a b) → Paired G l r
  | _, _, .nil, _ => .nil
  | _, _, .cons h t, f => .cons (f _ _ List.mem_cons_self h) (pairedMono t fun a b hm => f a b (List.mem_cons_of_mem _ hm))
theorem pairedAppend {α β : Type} {F : α → β → Prop} : ∀ {l l' : List α} {r r' : List β}, Paired F l r → Paired F l' r' → Paired F (l ++ l') (r ++ r')
  | _, _, _, _, .nil, h => h
  | _, _, _, _, .cons a b, h => .cons a (pairedAppend b h)
theorem pairedTake {α β : Type} {F : α → β → Prop} : ∀ (n : Nat) {l : List α} {r : List β}, Paired F l r → Paired F (l.take n) (r.take n)
  | 0, _, _, _ => .nil
  | n + 1, _, _, .nil => .nil
  | n + 1, _, _, .cons a b => .cons a (pairedTake n b)
theorem pairedSet {α β : Type} {F : α → β → Prop} : ∀ {l : List α} {r : List β} (i : Nat) {b : β}, Paired F l r → (∀ a, l[i]? = some a → F a b) → Paired F l (r.set i b)
  | _, _, _, _, .nil, _ => .nil
  | _, _, 0, _, .cons h t, f => .cons (f _ rfl) t
  | _, _, i + 1, _, .cons h t, f => .cons h (pairedSet i t fun a e => f a (by simpa using e))
theorem StR.len (h : StR K ρ τ S H) : ρ.length = S.length := Paired.length h.all
theorem StR.trk (h : StR K ρ τ S H) {a : Addr} (ha : a ∈ ρ) : H a ≠ none := by
  obtain ⟨b, _, h2⟩ := pairedMem h.all ha
  exact h2.trk
theorem Ext.refl (h : StR K ρ τ S H) : Ext ρ τ H ρ H := ⟨⟨[], by simp, by simp⟩, fun _ _ h _ => h, fun a ha => h.trk ha⟩
theorem Ext.trans (x : Ext ρ τ H ρ1 H1) (y : Ext ρ1 τ H1 ρ2 H2) : Ext ρ τ H ρ2 H2 := by
  obtain ⟨⟨n1, rfl, f1⟩, k1, t1⟩ := x
  obtain ⟨⟨n2, rfl, f2⟩, k2, t2⟩ := y
  refine ⟨⟨n1 ++ n2, by rw [List.append_assoc], fun a ha => ?_⟩, fun a o e hn => ?_, t2⟩
  · rcases List.mem_append.mp ha with ha | ha
    · exact f1 a ha
    · have q := f2 a ha
      cases e : H a with
      | none => rfl
      | some o =>
        by_cases hr : a ∈ ρ
        · exact absurd q (t1 a (List.mem_append_left _ hr))
        · have q2 := k1 a o e hr
          rw [q] at q2
          cases q2
  · refine k2 a o (k1 a o e hn) fun hm => ?_
    rcases List.mem_append.mp hm with hm | hm
    · exact hn hm
    · rw [f1 a hm] at e
      cases e
theorem Ext.cov (x : Ext ρ τ H ρ' H') : Cov (ρ ++ τ) H (ρ' ++ τ) H' := by
  obtain ⟨⟨n1, rfl, f1⟩, k1, t1⟩ := x
  refine ⟨fun a o e hn => k1 a o e fun z => hn (List.mem_append_left _ z), fun a o e hn hm => ?_⟩
  rcases List.mem_append.mp hm with hm | hm
  · rcases List.mem_append.mp hm with hm | hm
    · exact hn (List.mem_append_left _ hm)
    · rw [f1 a hm] at e
      cases e
  · exact hn (List.mem_append_right _ hm)
end

def Vr (K : PySem.W.Frag) (H : Hp) (ρ τ : List Addr) (x : V) : Vl → Prop
  | .d d => Rp K H (ρ ++ τ) x d
  | .o n => ∃ a, ρ[n]? = some a ∧ x = .ref a
  | .k ds => ∃ a xs, x = .ref a ∧ LstAt K H (ρ ++ τ) a xs ∧ RpL K H (ρ ++ τ) xs ds
abbrev VrL (K : PySem.W.Frag) (H : Hp) (ρ τ : List Addr) : List V → List Vl → Prop := Paired (Vr K H ρ τ)
def EnR (K : PySem.W.Frag) (H : Hp) (ρ τ : List Addr) (σ : St) (Γ : Env) : Prop := Paired (fun (o : Option V) (g : Option Vl) => ∀ v, g = some v → ∃ x, o = some x ∧ Vr K H ρ τ x v) σ Γ
section
variable {K : PySem.W.Frag} {H H' H1 H2 : Hp} {ρ ρ' ρ1 ρ2 τ : List Addr} {S S' : Sto}
theorem Vr.ext (x : Ext ρ τ H ρ' H') {v : Vl} {z : V} (h : Vr K H ρ τ z v) : Vr K H' ρ' τ z v := by
  cases v with
  | d d => exact Rp.cov x.cov _ _ h
  | o n =>
    obtain ⟨a, h1, h2⟩ := h
    obtain ⟨new, e, _⟩ := x.pre
    refine ⟨a, ?_, h2⟩
    have hi : n < ρ.length := (List.getElem?_eq_some_iff.mp h1).1
    rw [e, List.getElem?_append_left hi]
    exact h1
  | k ds =>
    obtain ⟨a, xs, e, h1, h2⟩ := h
    exact ⟨a, xs, e, h1.cov x.cov, RpL.cov x.cov _ _ h2⟩
theorem VrL.ext (x : Ext ρ τ H ρ' H') {vs : List Vl} {zs : List V} (h : VrL K H ρ τ zs vs) : VrL K H' ρ' τ zs vs := pairedMono h fun _ _ _ q => q.ext x
theorem EnR.ext (x : Ext ρ τ H ρ' H') {Γ : Env} {σ : St} (h : EnR K H ρ τ σ Γ) : EnR K H' ρ' τ σ Γ := pairedMono h fun _ _ _ q v e => let ⟨z, h1, h2⟩ := q v e; ⟨z, h1, h2.ext x⟩
theorem EnR.get {Γ : Env} {σ : St} {i : Nat} {v : Vl} (h : EnR K H ρ τ σ Γ) (e : Γ[i]? = some (some v)) : ∃ x, σ[i]? = some (some x) ∧ Vr K H ρ τ x v := by
  obtain ⟨o, h1, h2⟩ := pairedGetR h e
  obtain ⟨x, rfl, h3⟩ := h2 v rfl
  exact ⟨x, h1, h3⟩
theorem EnR.set {Γ : Env} {σ : St} {i : Nat} {v : Vl} {x : V} (h : EnR K H ρ τ σ Γ) (q : Vr K H ρ τ x v) : EnR K H ρ τ (σ.set i (some x)) (Γ.set i (some v)) := by
  induction h generalizing i with
  | nil => exact .nil
  | cons a b ih =>
    cases i with
    | zero => exact .cons (fun v' e => by cases e; exact ⟨x, rfl, q⟩) b
    | succ i => exact .cons a ih
theorem EnR.setNone {Γ : Env} {σ : St} {i : Nat} (h : EnR K H ρ τ σ Γ) : EnR K H ρ τ (σ.set i none) (Γ.set i none) := by
  induction h generalizing i with
  | nil => exact .nil
  | cons a b ih =>
    cases i with
    | zero => exact .cons (fun v' e => by cases e) b
    | succ i => exact .cons a ih
/-- an address of the store is written anew -/
theorem StR.put (h : StR K ρ τ S H) {n : Nat} {a : Addr} {o : HO} {p : Ob} (e : ρ[n]? = some a) (q : ObR K (upd H a o) (ρ ++ τ) a p) :
    StR K ρ τ (S.set n p) (upd H a o) ∧ Ext ρ τ H ρ (upd H a o) := by
  have ha : a ∈ ρ := List.mem_of_getElem? e
  have hc : Cov (ρ ++ τ) H (ρ ++ τ) (upd H a o) := ⟨fun b u hb hn => by rw [upd_ne (fun z => hn (by rw [z]; exact List.mem_append_left _ ha))]; exact hb, fun _ _ _ n => n⟩
  refine ⟨⟨h.nd, h.ap, fun b hb => ?_, ?_⟩, ⟨⟨[], by simp, by simp⟩, fun b u hb hn => ?_, fun b hb => ?_⟩⟩
  · by_cases z : b = a
    · subst z; rw [upd_same]; exact fun z => by cases z
    · rw [upd_ne z]; exact h.tk b hb
  · have h1 : Paired (fun b p' => (b ≠ a → ObR K (upd H a o) (ρ ++ τ) b p')) ρ S := pairedMono h.all fun b p' _ q' z => q'.cov hc (by rw [upd_ne z])
    have nd := h.nd
    have key : ∀ (l : List Addr) (r : Sto) (n : Nat), l.Nodup → Paired (fun b p' => (b ≠ a → ObR K (upd H a o) (ρ ++ τ) b p')) l r → l[n]? = some a → Paired (fun b p' => ObR K (upd H a o) (ρ ++ τ) b p') l (r.set n p) := by
      intro l r
      induction l generalizing r with
      | nil => intro n _ _ e; simp at e
      | cons b l ih =>
        intro n nd hp e
        cases hp with
        | cons hb ht =>
          cases n with
          | zero =>
            simp at e
            subst e
            refine .cons q (pairedMono ht fun c p' hcl q' => q' fun z => ?_)
            subst z
            exact (List.nodup_cons.mp nd).1 hcl
          | succ n =>
            have e' : l[n]? = some a := by simpa using e
            refine .cons (hb fun z => ?_) (ih _ n (List.nodup_cons.mp nd).2 ht e')
            subst z
            exact (List.nodup_cons.mp nd).1 (List.mem_of_getElem? e')
    exact key ρ S n nd h1 e
  · rw [upd_ne (fun z => hn (by rw [z]; exact ha))]; exact hb
  · by_cases z : b = a
    · subst z; rw [upd_same]; exact fun z => by cases z
    · rw [upd_ne z]; exact h.trk hb
/-- a new object that is not of the store -/
theorem StR.fresh (h : StR K ρ τ S H) {p : Addr} {o : HO} (hp : H p = none) : StR K ρ τ S (upd H p o) ∧ Ext ρ τ H ρ (upd H p o) := by
  have hc : Cov (ρ ++ τ) H (ρ ++ τ) (upd H p o) := ⟨fun b u hb _ => by rw [upd_ne (ne_of_none hb hp)]; exact hb, fun _ _ _ n => n⟩
  refine ⟨⟨h.nd, h.ap, fun b hb => ?_, pairedMono h.all fun b u hb q => q.cov hc ?_⟩, ⟨⟨[], by simp, by simp⟩, fun b u hb _ => by rw [upd_ne (ne_of_none hb hp)]; exact hb, fun b hb => ?_⟩⟩
  · by_cases z : b = p
    · subst z; exact absurd hp (h.tk b hb)
    · rw [upd_ne z]; exact h.tk b hb
  · by_cases z : b = p
    · subst z; exact absurd hp (h.trk hb)
    · rw [upd_ne z]
  · by_cases z : b = p
    · subst z; exact absurd hp (h.trk hb)
    · rw [upd_ne z]; exact h.trk hb
theorem StR.notin (h : StR K ρ τ S H) {p : Addr} (hp : H p = none) : p ∉ ρ ++ τ := fun z => by
  rcases List.mem_append.mp z with z | z
  · exact h.trk z hp
  · exact h.tk p z hp
/-- a new object of the store -/
theorem StR.alloc (h : StR K ρ τ S H) {p : Addr} {o : HO} {u : Ob} (hp : H p = none) (q : ObR K (upd H p o) ((ρ ++ [p]) ++ τ) p u) : StR K (ρ ++ [p]) τ (S ++ [u]) (upd H p o) ∧ Ext ρ τ H (ρ ++ [p]) (upd H p o) := by
  have hn := h.notin hp
  have x : Ext ρ τ H (ρ ++ [p]) (upd H p o) := by
    refine ⟨⟨[p], rfl, by simpa using hp⟩, fun b u hb _ => by rw [upd_ne (ne_of_none hb hp)]; exact hb, fun b hb => ?_⟩
    by_cases z : b = p
    · subst z; rw [upd_same]; exact fun z => by cases z
    · rw [upd_ne z]
      rcases List.mem_append.mp hb with hb | hb
      · exact h.trk hb
      · exact absurd (by simpa using hb) z
  refine ⟨⟨?_, fun a ha => ?_, fun b hb => ?_, pairedAppend (pairedMono h.all fun b u hb q => q.cov x.cov ?_) (.cons q .nil)⟩, x⟩
  · rw [List.nodup_append]
    refine ⟨h.nd, by simp, fun a ha b hb z => ?_⟩
    have hb' : b = p := by simpa using hb
    subst hb'
    subst z
    exact hn (List.mem_append_left _ ha)
  · rcases List.mem_append.mp ha with ha | ha
    · exact h.ap a ha
    · have e : a = p := by simpa using ha
      subst e
      exact fun z => hn (List.mem_append_right _ z)
  · by_cases z : b = p
    · subst z; exact absurd hp (h.tk b hb)
    · rw [upd_ne z]; exact h.tk b hb
  · by_cases z : b = p
    · subst z; exact absurd hp (h.trk hb)
    · rw [upd_ne z]
theorem tupNew (h : StR K ρ τ S H) {p : Addr} {xs : List V} {ds : List PyData} (hp : H p = none) (q : RpL K H (ρ ++ τ) xs ds) : Rp K (upd H p (.tup xs)) (ρ ++ τ) (.ref p) (.tuple ds) :=
  .tup (.inl ⟨.inl upd_same, h.notin hp⟩) (RpL.cov (h.fresh hp).2.cov _ _ q)
theorem lstNew (h : StR K ρ τ S H) {p : Addr} {xs : List V} {ds : List PyData} (hp : H p = none) (q : RpL K H (ρ ++ τ) xs ds) : Rp K (upd H p (.lst xs)) (ρ ++ τ) (.ref p) (.list ds) :=
  .lst ⟨upd_same, h.notin hp⟩ (RpL.cov (h.fresh hp).2.cov _ _ q)
end
end L2.Pv

set_option Elab.async false
set_option linter.all false
set_option maxRecDepth 100000
namespace L2.Pv
open PySem PySem.Spec PyProof.Rows L2

/-! ### what an operation yields -/
inductive R (α : Type) where
  | ok (a : α) (S : Sto)
  | bad
def R.bind {α β : Type} (r : R α) (f : α → Sto → R β) : R β := match r with
  | .ok a S => f a S
  | .bad => .bad
theorem R.bind_ok {α β : Type} {r : R α} {f : α → Sto → R β} {b : β} {S : Sto} (h : r.bind f = .ok b S) : ∃ a S1, r = .ok a S1 ∧ f a S1 = .ok b S := by
  cases r with
  | ok a S1 => exact ⟨a, S1, rfl, h⟩
  | bad => cases h
def lft (S : Sto) : Option PyData → R Vl
  | some c => .ok (.d c) S
  | none => .bad
theorem lft_ok {S S' : Sto} {o : Option PyData} {r : Vl} (h : lft S o = .ok r S') : ∃ c, o = some c ∧ r = .d c ∧ S' = S := by
  cases o with
  | none => cases h
  | some c => cases h; exact ⟨c, rfl, rfl, rfl⟩
/-- what is wanted behind -/
def Cont (K : PySem.W.Frag) (ρ τ : List Addr) (H : Hp) (S' : Sto) (v : Vl) (Q : VK) : Prop := ∀ ρ' H' x, Ext ρ τ H ρ' H' → StR K ρ' τ S' H' → Vr K H' ρ' τ x v → Q x H'
def ContB (K : PySem.W.Frag) (ρ τ : List Addr) (H : Hp) (S' : Sto) (b : Bool) (Q : Bool → Hp → Prop) : Prop := ∀ ρ' H', Ext ρ τ H ρ' H' → StR K ρ' τ S' H' → Q b H'
def ContL (K : PySem.W.Frag) (ρ τ : List Addr) (H : Hp) (S' : Sto) (vs : List Vl) (Q : List V → Hp → Prop) : Prop := ∀ ρ' H' xs, Ext ρ τ H ρ' H' → StR K ρ' τ S' H' → VrL K H' ρ' τ xs vs → Q xs H'
abbrev G2 := Vl → Vl → Sto → R Vl
abbrev G1 := Vl → Sto → R Vl
abbrev GL := List Vl → Sto → R Vl
def rD (K : PySem.W.Frag) (g : G2) : R2 := fun x y H Q => ∃ ρ τ S va vb r S', StR K ρ τ S H ∧ Vr K H ρ τ x va ∧ Vr K H ρ τ y vb ∧ g va vb S = .ok r S' ∧ Cont K ρ τ H S' r Q
def rD1 (K : PySem.W.Frag) (g : G1) : V → Hp → VK → Prop := fun x H Q => ∃ ρ τ S va r S', StR K ρ τ S H ∧ Vr K H ρ τ x va ∧ g va S = .ok r S' ∧ Cont K ρ τ H S' r Q
def rDL (K : PySem.W.Frag) (g : GL) : List V → Hp → VK → Prop := fun xs H Q => ∃ ρ τ S vs r S', StR K ρ τ S H ∧ VrL K H ρ τ xs vs ∧ g vs S = .ok r S' ∧ Cont K ρ τ H S' r Q
/-- a method: the receiver, the arguments -/
def rDM (K : PySem.W.Frag) (g : Vl → GL) : V → List V → Hp → VK → Prop := fun x xs H Q => ∃ ρ τ S va vs r S', StR K ρ τ S H ∧ Vr K H ρ τ x va ∧ VrL K H ρ τ xs vs ∧ g va vs S = .ok r S' ∧ Cont K ρ τ H S' r Q
def rDS (K : PySem.W.Frag) (g : Vl → Option Int → Option Int → Sto → R Vl) : V → Option Int → Option Int → Hp → VK → Prop := fun x lo hi H Q => ∃ ρ τ S va r S', StR K ρ τ S H ∧ Vr K H ρ τ x va ∧ g va lo hi S = .ok r S' ∧ Cont K ρ τ H S' r Q
def dat2 (h : PyData → PyData → Option PyData) : G2 := fun a b S => match a, b with
  | .d a, .d b => lft S (h a b)
  | _, _ => .bad
theorem dat2_ok {h : PyData → PyData → Option PyData} {va vb r : Vl} {S S' : Sto} (e : dat2 h va vb S = .ok r S') : ∃ a b c, va = .d a ∧ vb = .d b ∧ h a b = some c ∧ r = .d c ∧ S' = S := by
  unfold dat2 at e
  split at e
  · obtain ⟨c, h1, h2, h3⟩ := lft_ok e
    exact ⟨_, _, c, rfl, rfl, h1, h2, h3⟩
  · cases e
def dat1 (h : PyData → Option PyData) : G1 := fun a S => match a with
  | .d a => lft S (h a)
  | _ => .bad
theorem dat1_ok {h : PyData → Option PyData} {va r : Vl} {S S' : Sto} (e : dat1 h va S = .ok r S') : ∃ a c, va = .d a ∧ h a = some c ∧ r = .d c ∧ S' = S := by
  unfold dat1 at e
  split at e
  · obtain ⟨c, h1, h2, h3⟩ := lft_ok e
    exact ⟨_, c, rfl, h1, h2, h3⟩
  · cases e

section
variable {X : Cx} {pins : List (Addr × Obj)} {σ : L2.St} {H : Hp} {s : Shared} {ρ τ : List Addr} {S : Sto} {Q : VK}
/-- nothing has changed -/
theorem Cont.here (h : StR X.K ρ τ S H) {v : Vl} (c : Cont X.K ρ τ H S v Q) {x : V} (q : Vr X.K H ρ τ x v) : Q x H := c ρ H x (Ext.refl h) h q
theorem fin_str (I : Inv X pins σ H s) (h : StR X.K ρ τ S H) {z : Str} (hz : PySem.PyData.strOk z = true) (c : Cont X.K ρ τ H S (.d (.str z)) Q) : Q (.str z) H := c.here h (show Rp _ _ _ _ _ from .str z hz)
theorem fin_tup (h : StR X.K ρ τ S H) {xs : List V} {ds : List PyData} (q : RpL X.K H (ρ ++ τ) xs ds) (c : Cont X.K ρ τ H S (.d (.tuple ds)) Q) : ∀ p, H p = none → Q (.ref p) (upd H p (.tup xs)) := fun p hp =>
  c ρ _ _ (h.fresh hp).2 (h.fresh hp).1 (tupNew h hp q)
theorem fin_lst (h : StR X.K ρ τ S H) {xs : List V} {ds : List PyData} (q : RpL X.K H (ρ ++ τ) xs ds) (c : Cont X.K ρ τ H S (.d (.list ds)) Q) : ∀ p, H p = none → Q (.ref p) (upd H p (.lst xs)) := fun p hp =>
  c ρ _ _ (h.fresh hp).2 (h.fresh hp).1 (lstNew h hp q)
end

def SZ : Nat := 16777216
theorem SZ_eq : SZ = sizeLine := sizeLine_eq.symm

/-! ### texts stay texts -/
theorem strOk_append {a b : Str} (ha : PySem.PyData.strOk a = true) (hb : PySem.PyData.strOk b = true) : PySem.PyData.strOk (a ++ b) = true := by
  show (a.cps ++ b.cps).all _ = true
  rw [Array.all_append]
  exact Bool.and_eq_true_iff.mpr ⟨ha, hb⟩
theorem strOk_iff {a : Str} : PySem.PyData.strOk a = true ↔ ∀ c ∈ a.cps.toList, c < 0x110000 := by
  unfold PySem.PyData.strOk
  rw [← Array.all_toList, List.all_eq_true]
  exact ⟨fun h c hc => of_decide_eq_true (h c hc), fun h c hc => decide_eq_true (h c hc)⟩
theorem strOk_sub {a b : Str} (ha : PySem.PyData.strOk a = true) (h : ∀ c ∈ b.cps.toList, c ∈ a.cps.toList) : PySem.PyData.strOk b = true := strOk_iff.mpr fun c hc => strOk_iff.mp ha c (h c hc)

/-! ### + - * // % ** -/
def dAdd : PyData → PyData → Option PyData
  | .int i, .int j => some (.int (i + j))
  | .str a, .str b => if a.length + b.length ≤ SZ then some (.str (a ++ b)) else none
  | .tuple a, .tuple b => if a.length + b.length ≤ SZ then some (.tuple (a ++ b)) else none
  | .list a, .list b => if a.length + b.length ≤ SZ then some (.list (a ++ b)) else none
  | _, _ => none
def dSub : PyData → PyData → Option PyData
  | .int i, .int j => some (.int (i - j))
  | _, _ => none
def strRep (x : Str) (n : Int) : Str := ⟨(List.replicate n.toNat x.cps.toList).flatten.toArray⟩
def dMul : PyData → PyData → Option PyData
  | .int i, .int j => if (-(2 ^ 64) < i ∧ i < 2 ^ 64) ∨ (-(2 ^ 64) < j ∧ j < 2 ^ 64) then some (.int (i * j)) else none
  | .str x, .int n => if x.length * n.toNat ≤ SZ ∧ -(2 ^ 63) ≤ n ∧ n < 2 ^ 63 then some (.str (strRep x n)) else none
  | .list x, .int n => if x.length * n.toNat ≤ SZ ∧ -(2 ^ 63) ≤ n ∧ n < 2 ^ 63 then some (.list (List.replicate n.toNat x).flatten) else none
  | _, _ => none
def dFdiv : PyData → PyData → Option PyData
  | .int i, .int j => if 0 < j ∧ j < 18446744073709551616 then some (.int (i / j)) else none
  | _, _ => none
def dMod : PyData → PyData → Option PyData
  | .int i, .int j => if 0 < j then some (.int (i % j)) else none
  | _, _ => none
def dPow : PyData → PyData → Option PyData
  | .int i, .int j => if 0 ≤ j ∧ j ≤ 1000000 ∧ i.natAbs < 2 ^ 64 then some (.int (i ^ j.toNat)) else none
  | _, _ => none

theorem list_add_eq (x : List V) : True := trivial
theorem RpL.rep {K : PySem.W.Frag} {H : Hp} {m : List Addr} {ds : List PyData} {vs : List V} : ∀ n : Nat, RpL K H m vs ds → RpL K H m (List.replicate n vs).flatten (List.replicate n ds).flatten
  | 0, _ => .nil
  | n + 1, h => by
    rw [List.replicate_succ, List.replicate_succ, List.flatten_cons, List.flatten_cons]
    exact h.append (RpL.rep n h)
section
variable {X : Cx}
theorem opd_add : OpR X (binaryOp .Add) (rD X.K (dat2 dAdd)) := by
  intro pins s σ H x y v u Q I rx ry h
  obtain ⟨ρ, τ, S, va, vb, r, S', hS, ha, hb, hg, hc⟩ := h
  obtain ⟨a, b, c, rfl, rfl, hd, rfl, rfl⟩ := dat2_ok hg
  have ha : Rp _ _ _ _ _ := ha
  have hb : Rp _ _ _ _ _ := hb
  unfold dAdd at hd
  split at hd
  · cases hd
    cases ha
    cases hb
    exact op_add pins s σ H _ _ v u Q I rx ry ⟨_, _, rfl, rfl, hc.here hS (show Rp _ _ _ _ _ from .int _)⟩
  · split at hd
    · rename_i hz
      cases hd
      cases ha with
      | str _ oa =>
        cases hb with
        | str _ ob => exact op_add_str pins s σ H _ _ v u Q I rx ry ⟨_, _, rfl, rfl, by rw [← SZ_eq]; exact hz, fin_str I hS (strOk_append oa ob) hc⟩
    · cases hd
  · split at hd
    · rename_i hz
      cases hd
      cases ha with
      | tup ta qa =>
        cases hb with
        | tup tb qb =>
          refine op_catA pins s σ H _ _ v u Q I rx ry ⟨_, _, _, _, rfl, rfl, ta.sq, tb.sq, by rw [qa.length, qb.length, ← SZ_eq]; exact hz, fun e => ?_, fun _ e => ?_, fun _ _ => fin_tup hS (qa.append qb) hc⟩
          · subst e
            cases qa
            exact hc.here hS (show Rp _ _ _ _ _ from .tup tb qb)
          · subst e
            cases qb
            rw [List.append_nil] at hc
            exact hc.here hS (show Rp _ _ _ _ _ from .tup ta qa)
    · cases hd
  · split at hd
    · rename_i hz
      cases hd
      cases ha with
      | lst ta qa =>
        cases hb with
        | lst tb qb => exact op_cat pins s σ H _ _ v u Q I rx ry ⟨_, _, _, _, rfl, rfl, ta.1, tb.1, by rw [qa.length, qb.length, ← SZ_eq]; exact hz, fin_lst hS (qa.append qb) hc⟩
    · cases hd
  · cases hd
theorem opd_sub : OpR X (binaryOp .Sub) (rD X.K (dat2 dSub)) := by
  intro pins s σ H x y v u Q I rx ry h
  obtain ⟨ρ, τ, S, va, vb, r, S', hS, ha, hb, hg, hc⟩ := h
  obtain ⟨a, b, c, rfl, rfl, hd, rfl, rfl⟩ := dat2_ok hg
  have ha : Rp _ _ _ _ _ := ha
  have hb : Rp _ _ _ _ _ := hb
  unfold dSub at hd
  split at hd
  · cases hd
    cases ha
    cases hb
    exact op_sub pins s σ H _ _ v u Q I rx ry ⟨_, _, rfl, rfl, hc.here hS (show Rp _ _ _ _ _ from .int _)⟩
  · cases hd
theorem opd_fdiv : OpR X (binaryOp .FloorDiv) (rD X.K (dat2 dFdiv)) := by
  intro pins s σ H x y v u Q I rx ry h
  obtain ⟨ρ, τ, S, va, vb, r, S', hS, ha, hb, hg, hc⟩ := h
  obtain ⟨a, b, c, rfl, rfl, hd, rfl, rfl⟩ := dat2_ok hg
  have ha : Rp _ _ _ _ _ := ha
  have hb : Rp _ _ _ _ _ := hb
  unfold dFdiv at hd
  split at hd
  · split at hd
    · rename_i hz
      cases hd
      cases ha
      cases hb
      exact op_fdivW pins s σ H _ _ v u Q I rx ry ⟨_, _, rfl, rfl, wide_div (b := 64) hz.1 (by omega) (by decide) (by decide), hc.here hS (show Rp _ _ _ _ _ from .int _)⟩
    · cases hd
  · cases hd
theorem opd_mod : OpR X (binaryOp .Mod) (rD X.K (dat2 dMod)) := by
  intro pins s σ H x y v u Q I rx ry h
  obtain ⟨ρ, τ, S, va, vb, r, S', hS, ha, hb, hg, hc⟩ := h
  obtain ⟨a, b, c, rfl, rfl, hd, rfl, rfl⟩ := dat2_ok hg
  have ha : Rp _ _ _ _ _ := ha
  have hb : Rp _ _ _ _ _ := hb
  unfold dMod at hd
  split at hd
  · split at hd
    · rename_i hz
      cases hd
      cases ha
      cases hb
      exact op_mod pins s σ H _ _ v u Q I rx ry ⟨_, _, rfl, rfl, hz, hc.here hS (show Rp _ _ _ _ _ from .int _)⟩
    · cases hd
  · cases hd
theorem opd_pow : OpR X (binaryOp .Pow) (rD X.K (dat2 dPow)) := by
  intro pins s σ H x y v u Q I rx ry h
  obtain ⟨ρ, τ, S, va, vb, r, S', hS, ha, hb, hg, hc⟩ := h
  obtain ⟨a, b, c, rfl, rfl, hd, rfl, rfl⟩ := dat2_ok hg
  have ha : Rp _ _ _ _ _ := ha
  have hb : Rp _ _ _ _ _ := hb
  unfold dPow at hd
  split at hd
  · split at hd
    · rename_i hz
      cases hd
      cases ha
      cases hb
      exact op_pow pins s σ H _ _ v u Q I rx ry ⟨_, _, rfl, rfl, hz, hc.here hS (show Rp _ _ _ _ _ from .int _)⟩
    · cases hd
  · cases hd
theorem foldl_rep_toList (a : Array Nat) : ∀ (n : Nat) (b : Array Nat), ((List.replicate n a).foldl (· ++ ·) b).toList = b.toList ++ (List.replicate n a.toList).flatten
  | 0, b => by simp
  | n + 1, b => by
    rw [List.replicate_succ, List.foldl_cons, foldl_rep_toList a n (b ++ a), List.replicate_succ, List.flatten_cons, Array.toList_append, List.append_assoc]
theorem strRep_mul (x : Str) (n : Int) : Txt.mul x n = strRep x n := by
  unfold Txt.mul strRep
  by_cases h1 : n < 1
  · rw [if_pos h1, show n.toNat = 0 by omega]
    rfl
  · rw [if_neg h1]
    by_cases h2 : (n == 1 || x.length == 0) = true
    · rw [if_pos h2]
      rcases Bool.or_eq_true_iff.mp h2 with h | h
      · have e : n = 1 := by simpa using h
        subst e
        cases x
        simp
      · have e : x.cps = #[] := by
          have : x.cps.size = 0 := by simpa [Str.length] using h
          exact Array.eq_empty_of_size_eq_zero this
        cases x
        simp only at e
        subst e
        have hr : ∀ m : Nat, (List.replicate m ([] : List Nat)).flatten = [] := fun m => by
          induction m with
          | zero => rfl
          | succ m ih => rw [List.replicate_succ, List.flatten_cons, ih]; rfl
        simp [hr]
    · rw [if_neg h2]
      have := foldl_rep_toList x.cps n.toNat #[]
      congr 1
      apply Array.toList_inj.mp
      simpa using this
theorem strOk_rep {x : Str} {n : Int} (h : PySem.PyData.strOk x = true) : PySem.PyData.strOk (strRep x n) = true := strOk_sub h fun c hc => by
  unfold strRep at hc
  simp only [List.mem_flatten, List.mem_replicate] at hc
  obtain ⟨l, ⟨_, rfl⟩, hc⟩ := hc
  exact hc
theorem mulOk_of {x : Str} {n : Int} (h : x.length * n.toNat ≤ SZ) (h1 : -(2 ^ 63) ≤ n) (h2 : n < 2 ^ 63) : MulOk x n := by
  refine ⟨?_, fun h3 h4 => ?_, fun h3 h4 => ?_⟩
  · rw [Bool.or_eq_false_iff]
    exact ⟨decide_eq_false (by omega), decide_eq_false (by omega)⟩
  · have hn : 0 < n := by omega
    intro h5
    have h6 : ((2 ^ 63 - 1 : Int) / n) * n ≤ 2 ^ 63 - 1 := Int.ediv_mul_le _ (by omega)
    have h7 : (2 ^ 63 - 1 : Int) < ((2 ^ 63 - 1 : Int) / n + 1) * n := Int.lt_ediv_add_one_mul_self _ hn
    have h8 : ((2 ^ 63 - 1 : Int) / n + 1) * n ≤ (x.length : Int) * n := Int.mul_le_mul_of_nonneg_right (by omega) (by omega)
    have h9 : ((x.length * n.toNat : Nat) : Int) = (x.length : Int) * n := by rw [Int.natCast_mul, Int.toNat_of_nonneg (by omega)]
    have h10 : (x.length : Int) * n ≤ 16777216 := by rw [← h9]; exact Int.ofNat_le.mpr h
    omega
  · unfold Builtin.Str.tooLong
    exact decide_eq_false (by rw [← SZ_eq]; omega)
theorem opd_mul : OpR X (binaryOp .Mult) (rD X.K (dat2 dMul)) := by
  intro pins s σ H x y v u Q I rx ry h
  obtain ⟨ρ, τ, S, va, vb, r, S', hS, ha, hb, hg, hc⟩ := h
  obtain ⟨a, b, c, rfl, rfl, hd, rfl, rfl⟩ := dat2_ok hg
  have ha : Rp _ _ _ _ _ := ha
  have hb : Rp _ _ _ _ _ := hb
  unfold dMul at hd
  split at hd
  · split at hd
    · rename_i hz
      cases hd
      cases ha
      cases hb
      exact op_mul pins s σ H _ _ v u Q I rx ry ⟨_, _, rfl, rfl, hz, hc.here hS (show Rp _ _ _ _ _ from .int _)⟩
    · cases hd
  · split at hd
    · rename_i hz
      cases hd
      cases ha with
      | str _ oa =>
        cases hb
        obtain ⟨t, rfl⟩ := rx
        obtain ⟨t', rfl⟩ := ry
        refine PySem.SB.mul (mulOk_of hz.1 hz.2.1 hz.2.2) fun t2 k => ⟨.str _, H, I.tok k, ⟨t2, rfl⟩, ?_⟩
        rw [strRep_mul]
        exact fin_str I hS (strOk_rep oa) hc
    · cases hd
  · split at hd
    · rename_i hz
      cases hd
      cases ha with
      | lst ta qa =>
        cases hb
        exact op_rep pins s σ H _ _ v u Q I rx ry ⟨_, _, _, rfl, rfl, ta.1, hz.2.1, hz.2.2, by rw [qa.length, ← SZ_eq]; exact hz.1, fin_lst hS (RpL.rep _ qa) hc⟩
    · cases hd
  · cases hd
end
end L2.Pv

set_option Elab.async false
set_option linter.all false
set_option maxRecDepth 100000
namespace L2.Pv
open PySem PySem.Spec PyProof.Rows L2

/-! ### comparisons -/
def dEqB (a b : PyData) : Option Bool := if min a.depth b.depth ≤ 60 then some (PyData.eqv a b) else none
def dLtB : PyData → PyData → Option Bool
  | .int i, .int j => some (decide (i < j))
  | .str a, .str b => some (decide (a.cps.toList < b.cps.toList))
  | .tuple a, .tuple b => if PySem.W.alike (.tuple a) (.tuple b) = true ∧ min (PyData.depth (.tuple a)) (PyData.depth (.tuple b)) ≤ 60 then some (PySem.W.dataLt (.tuple a) (.tuple b)) else none
  | .list a, .list b => if PySem.W.alike (.list a) (.list b) = true ∧ min (PyData.depth (.list a)) (PyData.depth (.list b)) ≤ 60 then some (PySem.W.dataLt (.list a) (.list b)) else none
  | _, _ => none
def dInB : PyData → PyData → Option Bool
  | .str a, .str z => match a.cps.toList with
    | [c] => some (decide (c ∈ z.cps.toList))
    | _ => some (!(Builtin.Str.occurrences z a 0 z.length 1).isEmpty)
  | d, .list ds => if min (PyData.depthAll ds) d.depth ≤ 60 then some (ds.any fun z => PyData.eqv z d) else none
  | d, .tuple ds => if min (PyData.depthAll ds) d.depth ≤ 60 then some (ds.any fun z => PyData.eqv z d) else none
  | _, _ => none
def obl : Option Bool → Option PyData := Option.map .bool
def onot : Option Bool → Option Bool := Option.map (!·)
def dEq (a b : PyData) : Option PyData := obl (dEqB a b)
def dNe (a b : PyData) : Option PyData := obl (onot (dEqB a b))
def dLt (a b : PyData) : Option PyData := obl (dLtB a b)
def dGt (a b : PyData) : Option PyData := obl (dLtB b a)
def dLe (a b : PyData) : Option PyData := obl (onot (dLtB b a))
def dGe (a b : PyData) : Option PyData := obl (onot (dLtB a b))
def dIn (a b : PyData) : Option PyData := obl (dInB a b)
def dNotIn (a b : PyData) : Option PyData := obl (onot (dInB a b))

theorem obl_ok {o : Option Bool} {c : PyData} (h : obl o = some c) : ∃ b, o = some b ∧ c = .bool b := by
  cases o with
  | none => cases h
  | some b => cases h; exact ⟨b, rfl, rfl⟩
theorem onot_ok {o : Option Bool} {c : Bool} (h : onot o = some c) : ∃ b, o = some b ∧ c = !b := by
  cases o with
  | none => cases h
  | some b => cases h; exact ⟨b, rfl, rfl⟩

/-! ### a store's object read -/
def lstOf (S : Sto) (n : Nat) : Option (List PyData) := match S[n]? with
  | some (.lst ds) => some ds
  | _ => none
theorem lstOf_ok {S : Sto} {n : Nat} {ds : List PyData} (h : lstOf S n = some ds) : S[n]? = some (.lst ds) := by
  unfold lstOf at h
  split at h
  · rename_i e
    cases h
    exact e
  · cases h
section
variable {K : PySem.W.Frag} {H : Hp} {ρ τ : List Addr} {S : Sto}
theorem StR.get (h : StR K ρ τ S H) {n : Nat} {a : Addr} {o : Ob} (ha : ρ[n]? = some a) (ho : S[n]? = some o) : ObR K H (ρ ++ τ) a o := by
  obtain ⟨b, h1, h2⟩ := pairedGet h.all ha
  rw [ho] at h1
  cases h1
  exact h2
theorem StR.lstAt (h : StR K ρ τ S H) {n : Nat} {a : Addr} {ds : List PyData} (ha : ρ[n]? = some a) (ho : lstOf S n = some ds) : ∃ xs, H a = some (.lst xs) ∧ RpL K H (ρ ++ τ) xs ds := h.get ha (lstOf_ok ho)
/-- what a value shows when it is only read -/
def rdV (S : Sto) : Vl → Option PyData
  | .d d => some d
  | .o n => (lstOf S n).map .list
  | .k _ => none
theorem rdV_rp (hS : StR K ρ τ S H) {v : Vl} {x : V} {d : PyData} (h : Vr K H ρ τ x v) (e : rdV S v = some d) : Rp K H [] x d := by
  cases v with
  | d d0 =>
    cases e
    exact Rp.cov (Cov.less (fun a z => by cases z)) _ _ (show Rp K H (ρ ++ τ) x d from h)
  | o n =>
    obtain ⟨a, ha, rfl⟩ := h
    obtain ⟨ds, e1, e2⟩ := Option.map_eq_some_iff.mp e
    subst e2
    obtain ⟨xs, h1, h2⟩ := hS.lstAt ha e1
    exact .lst ⟨h1, fun z => by cases z⟩ (RpL.cov (Cov.less (fun a z => by cases z)) _ _ h2)
  | k ds => cases e
end
/-- an operation on what is read -/
def cmp2 (h : PyData → PyData → Option PyData) : G2 := fun a b S => match rdV S a with
  | some a => match rdV S b with
    | some b => lft S (h a b)
    | none => .bad
  | none => .bad
theorem cmp2_ok {h : PyData → PyData → Option PyData} {va vb r : Vl} {S S' : Sto} (e : cmp2 h va vb S = .ok r S') : ∃ a b c, rdV S va = some a ∧ rdV S vb = some b ∧ h a b = some c ∧ r = .d c ∧ S' = S := by
  unfold cmp2 at e
  split at e
  · rename_i a ha
    split at e
    · rename_i b hb
      obtain ⟨c, h1, h2, h3⟩ := lft_ok e
      exact ⟨a, b, c, ha, hb, h1, h2, h3⟩
    · cases e
  · cases e

section
variable {X : Cx} {pins : List (Addr × Obj)} {σ : L2.St} {H : Hp} {s : Shared} {ρ τ m : List Addr} {S : Sto} {Q : VK}
theorem rd_reads (I : Inv X pins σ H s) {d : PyData} {x : V} {u : Value} (h : Rp X.K H m x d) (r : RelV x u) : ∃ as, Reads s.heap u d as := Dp.reads I d x u (Rp.dp d x h) r
/-- an operation on data that yields a bool -/
theorem opd_bool {f : Value → Value → Sem Value} {g : PyData → PyData → Option PyData} (h : ∀ (a b : PyData) (c : Bool) (x y : V) (v u : Value) (pins : List (Addr × Obj)) (s : Shared) (σ : L2.St) (H : Hp) (m : List Addr) (Q : Value → Shared → Prop),
      Inv X pins σ H s → RelV x v → RelV y u → Rp X.K H m x a → Rp X.K H m y b → g a b = some (.bool c) → Q (.bool c) s → wpAny (model X.prog X.w) X.A (f v u) Q X.xe s) (hg : ∀ a b c, g a b = some c → ∃ k, c = .bool k) : OpR X f (rD X.K (cmp2 g)) := by
  intro pins s σ H x y v u Q I rx ry hh
  obtain ⟨ρ, τ, S, va, vb, r, S', hS, ha, hb, hgg, hc⟩ := hh
  obtain ⟨a, b, c, ea, eb, hd, rfl, rfl⟩ := cmp2_ok hgg
  obtain ⟨k, rfl⟩ := hg _ _ _ hd
  exact h a b k x y v u pins s σ H [] _ I rx ry (rdV_rp hS ha ea) (rdV_rp hS hb eb) hd ⟨.bl k, H, I, rfl, hc.here hS (show Rp _ _ _ _ _ from .bl k)⟩
variable (hu : X.A.units + 64 < cLine)
include hu
theorem opd_eq : OpR X (compareOp .Eq) (rD X.K (cmp2 dEq)) := opd_bool (fun a b c x y v u pins s σ H m Q I rx ry ha hb hd q => by
    obtain ⟨k, h1, h2⟩ := obl_ok hd
    cases h2
    unfold dEqB at h1
    split at h1
    · rename_i hz
      cases h1
      obtain ⟨as, r1⟩ := rd_reads I ha rx
      obtain ⟨bs, r2⟩ := rd_reads I hb ry
      exact SeqAt.compareEq_reads r1 r2 (Rp.lay _ _ ha) (Rp.lay _ _ hb) (by omega) q
    · cases h1) fun a b c h => let ⟨k, _, e⟩ := obl_ok h; ⟨k, e⟩
theorem opd_ne : OpR X (compareOp .NotEq) (rD X.K (cmp2 dNe)) := opd_bool (fun a b c x y v u pins s σ H m Q I rx ry ha hb hd q => by
    obtain ⟨k0, h0, h2⟩ := obl_ok hd
    cases h2
    obtain ⟨k, h1, rfl⟩ := onot_ok h0
    unfold dEqB at h1
    split at h1
    · rename_i hz
      cases h1
      obtain ⟨as, r1⟩ := rd_reads I ha rx
      obtain ⟨bs, r2⟩ := rd_reads I hb ry
      exact SeqAt.compareNe_reads r1 r2 (Rp.lay _ _ ha) (Rp.lay _ _ hb) (by omega) q
    · cases h1) fun a b c h => let ⟨k, _, e⟩ := obl_ok h; ⟨k, e⟩
theorem dLtB_inv {a b : PyData} {k : Bool} (h : dLtB a b = some k) : PySem.W.alike a b = true ∧ a ≠ .none ∧ b ≠ .none ∧ X.A.units + min a.depth b.depth < cLine ∧ k = PySem.W.dataLt a b := by
  unfold dLtB at h
  split at h
  · cases h
    exact ⟨rfl, (fun z => nomatch z), (fun z => nomatch z), by show X.A.units + min 0 0 < cLine; omega, (PySem.W.dataLt_int _ _).symm⟩
  · cases h
    exact ⟨rfl, (fun z => nomatch z), (fun z => nomatch z), by show X.A.units + min 0 0 < cLine; omega, (PySem.W.dataLt_str _ _).symm⟩
  · split at h
    · rename_i hz
      cases h
      exact ⟨hz.1, (fun z => nomatch z), (fun z => nomatch z), by omega, rfl⟩
    · cases h
  · split at h
    · rename_i hz
      cases h
      exact ⟨hz.1, (fun z => nomatch z), (fun z => nomatch z), by omega, rfl⟩
    · cases h
  · cases h
theorem opd_lt : OpR X (compareOp .Lt) (rD X.K (cmp2 dLt)) := opd_bool (fun a b c x y v u pins s σ H m Q I rx ry ha hb hd q => by
    obtain ⟨k, h1, h2⟩ := obl_ok hd
    cases h2
    obtain ⟨h3, h4, h5, h6, rfl⟩ := dLtB_inv hu h1
    obtain ⟨as, r1⟩ := rd_reads I ha rx
    obtain ⟨bs, r2⟩ := rd_reads I hb ry
    exact PySem.W.lt_data r1 r2 h3 h4 h6 q) fun a b c h => let ⟨k, _, e⟩ := obl_ok h; ⟨k, e⟩
omit hu in
mutual
theorem alike_symm : ∀ (a b : PyData), PySem.W.alike a b = true → PySem.W.alike b a = true
  | .none, b, h => by cases b <;> first | rfl | (simp [PySem.W.alike] at h)
  | .bool _, b, h => by cases b <;> first | rfl | (simp [PySem.W.alike] at h)
  | .int _, b, h => by cases b <;> first | rfl | (simp [PySem.W.alike] at h)
  | .str _, b, h => by cases b <;> first | rfl | (simp [PySem.W.alike] at h)
  | .list xs, b, h => by
    cases b with
    | list ys => exact alikeAll_symm xs ys h
    | _ => simp [PySem.W.alike] at h
  | .tuple xs, b, h => by
    cases b with
    | tuple ys => exact alikeAll_symm xs ys h
    | _ => simp [PySem.W.alike] at h
  | .dict _, b, h => by cases b <;> simp [PySem.W.alike] at h
theorem alikeAll_symm : ∀ (a b : List PyData), PySem.W.alikeAll a b = true → PySem.W.alikeAll b a = true
  | [], [], h => rfl
  | [], _ :: _, h => rfl
  | _ :: _, [], h => rfl
  | x :: xs, y :: ys, h => by
    have h' := PySem.W.alike_all_cons h
    show (PySem.W.alike y x && PySem.W.alikeAll ys xs) = true
    rw [alike_symm x y h'.1, alikeAll_symm xs ys h'.2]
    rfl
end
theorem opd_gt : OpR X (compareOp .Gt) (rD X.K (cmp2 dGt)) := opd_bool (fun a b c x y v u pins s σ H m Q I rx ry ha hb hd q => by
    obtain ⟨k, h1, h2⟩ := obl_ok hd
    cases h2
    obtain ⟨h3, h4, h5, h6, rfl⟩ := dLtB_inv hu h1
    obtain ⟨as, r1⟩ := rd_reads I ha rx
    obtain ⟨bs, r2⟩ := rd_reads I hb ry
    exact PySem.W.gt_data r1 r2 (alike_symm _ _ h3) h5 (by rw [Nat.min_comm]; exact h6) q) fun a b c h => let ⟨k, _, e⟩ := obl_ok h; ⟨k, e⟩
theorem opd_le : OpR X (compareOp .LtE) (rD X.K (cmp2 dLe)) := opd_bool (fun a b c x y v u pins s σ H m Q I rx ry ha hb hd q => by
    obtain ⟨k0, h0, h2⟩ := obl_ok hd
    cases h2
    obtain ⟨k, h1, rfl⟩ := onot_ok h0
    obtain ⟨h3, h4, h5, h6, rfl⟩ := dLtB_inv hu h1
    obtain ⟨as, r1⟩ := rd_reads I ha rx
    obtain ⟨bs, r2⟩ := rd_reads I hb ry
    exact PySem.W.le_data r1 r2 (alike_symm _ _ h3) h5 (by rw [Nat.min_comm]; exact h6) q) fun a b c h => let ⟨k, _, e⟩ := obl_ok h; ⟨k, e⟩
theorem opd_ge : OpR X (compareOp .GtE) (rD X.K (cmp2 dGe)) := opd_bool (fun a b c x y v u pins s σ H m Q I rx ry ha hb hd q => by
    obtain ⟨k0, h0, h2⟩ := obl_ok hd
    cases h2
    obtain ⟨k, h1, rfl⟩ := onot_ok h0
    obtain ⟨h3, h4, h5, h6, rfl⟩ := dLtB_inv hu h1
    obtain ⟨as, r1⟩ := rd_reads I ha rx
    obtain ⟨bs, r2⟩ := rd_reads I hb ry
    exact PySem.W.ge_data r1 r2 h3 h4 h6 q) fun a b c h => let ⟨k, _, e⟩ := obl_ok h; ⟨k, e⟩
theorem opd_in : OpR X (compareOp .In) (rD X.K (cmp2 dIn)) := opd_bool (fun a b c x y v u pins s σ H m Q I rx ry ha hb hd q => by
    obtain ⟨k, h1, h2⟩ := obl_ok hd
    cases h2
    unfold dInB at h1
    split at h1
    · rename_i a0 z0
      cases ha
      cases hb
      obtain ⟨t, rfl⟩ := rx
      obtain ⟨t', rfl⟩ := ry
      split at h1
      · rename_i c0 hc
        cases h1
        have e : a0 = ⟨#[c0]⟩ := by
          cases a0
          simp only at hc
          congr 1
          apply Array.toList_inj.mp
          exact hc
        subst e
        refine PyProof.Rows.in_str ?_
        rw [PySem.StrLaws.found_one z0 c0]
        exact q
      · cases h1
        exact PyProof.Rows.in_str q
    · split at h1
      · rename_i hz
        cases h1
        obtain ⟨as, r1⟩ := rd_reads I ha rx
        obtain ⟨bs, r2⟩ := rd_reads I hb ry
        exact SeqAt.in_list_reads r2 r1 (Rp.lay _ _ hb) (Rp.lay _ _ ha) (by omega) q
      · cases h1
    · split at h1
      · rename_i hz
        cases h1
        obtain ⟨as, r1⟩ := rd_reads I ha rx
        obtain ⟨bs, r2⟩ := rd_reads I hb ry
        exact SeqAt.in_tuple_reads r2 r1 (Rp.lay _ _ hb) (Rp.lay _ _ ha) (by omega) q
      · cases h1
    · cases h1) fun a b c h => let ⟨k, _, e⟩ := obl_ok h; ⟨k, e⟩
theorem opd_notIn : OpR X (compareOp .NotIn) (rD X.K (cmp2 dNotIn)) := opd_bool (fun a b c x y v u pins s σ H m Q I rx ry ha hb hd q => by
    obtain ⟨k0, h0, h2⟩ := obl_ok hd
    cases h2
    obtain ⟨k, h1, rfl⟩ := onot_ok h0
    unfold dInB at h1
    split at h1
    · rename_i a0 z0
      cases ha
      cases hb
      obtain ⟨t, rfl⟩ := rx
      obtain ⟨t', rfl⟩ := ry
      split at h1
      · rename_i c0 hc
        cases h1
        have e : a0 = ⟨#[c0]⟩ := by
          cases a0
          simp only at hc
          congr 1
          apply Array.toList_inj.mp
          exact hc
        subst e
        refine PyProof.Rows.notIn_str ?_
        rw [PySem.StrLaws.found_one z0 c0]
        exact q
      · cases h1
        exact PyProof.Rows.notIn_str q
    · split at h1
      · rename_i hz
        cases h1
        obtain ⟨as, r1⟩ := rd_reads I ha rx
        obtain ⟨bs, r2⟩ := rd_reads I hb ry
        exact SeqAt.notIn_list_reads r2 r1 (Rp.lay _ _ hb) (Rp.lay _ _ ha) (by omega) q
      · cases h1
    · split at h1
      · rename_i hz
        cases h1
        obtain ⟨as, r1⟩ := rd_reads I ha rx
        obtain ⟨bs, r2⟩ := rd_reads I hb ry
        exact SeqAt.notIn_tuple_reads r2 r1 (Rp.lay _ _ hb) (Rp.lay _ _ ha) (by omega) q
      · cases h1
    · cases h1) fun a b c h => let ⟨k, _, e⟩ := obl_ok h; ⟨k, e⟩
end
end L2.Pv

set_option Elab.async false
set_option linter.all false
set_option maxRecDepth 100000
namespace L2.Pv
open PySem PySem.Spec PyProof.Rows L2

/-- a list or a tuple, whatever it is -/
inductive Sq where
  | l (ds : List PyData)
  | t (ds : List PyData)
def sqOf (S : Sto) : Vl → Option Sq
  | .d (.list ds) => some (.l ds)
  | .d (.tuple ds) => some (.t ds)
  | .k ds => some (.l ds)
  | .o n => (lstOf S n).map .l
  | _ => none
section
variable {X : Cx} {pins : List (Addr × Obj)} {σ : L2.St} {H : Hp} {s : Shared} {ρ τ : List Addr} {S : Sto} {Q : VK} {K : PySem.W.Frag}
theorem sq_l (h : StR K ρ τ S H) {v : Vl} {x : V} {ds : List PyData} (hv : Vr K H ρ τ x v) (e : sqOf S v = some (.l ds)) : ∃ a xs, x = .ref a ∧ SqL K H a xs ∧ RpL K H (ρ ++ τ) xs ds := by
  unfold sqOf at e
  split at e
  · cases e
    cases (show Rp _ _ _ _ _ from hv) with
    | lst ta qa => exact ⟨_, _, rfl, ta.sq, qa⟩
  · cases e
  · cases e
    obtain ⟨a, xs, e1, h1, h2⟩ := hv
    exact ⟨a, xs, e1, h1.sq, h2⟩
  · rename_i n
    obtain ⟨ds', h1, h2⟩ := Option.map_eq_some_iff.mp e
    cases h2
    obtain ⟨a, ha, e1⟩ := hv
    obtain ⟨xs, h3, h4⟩ := h.lstAt ha h1
    exact ⟨a, xs, e1, .of h3, h4⟩
  · cases e
theorem sq_t {v : Vl} {x : V} {ds : List PyData} (hv : Vr K H ρ τ x v) (e : sqOf S v = some (.t ds)) : v = .d (.tuple ds) ∧ ∃ a xs, x = .ref a ∧ SqT K H a xs ∧ RpL K H (ρ ++ τ) xs ds := by
  unfold sqOf at e
  split at e
  · cases e
  · cases e
    cases (show Rp _ _ _ _ _ from hv) with
    | tup ta qa => exact ⟨rfl, _, _, rfl, ta.sq, qa⟩
  · cases e
  · obtain ⟨ds', h1, h2⟩ := Option.map_eq_some_iff.mp e
    cases h2
  · cases e
theorem RpL.atI {m : List Addr} {ds : List PyData} {xs : List V} {i : Int} {d : PyData} (h : RpL K H m xs ds) (e : atI ds i = some d) : ∃ x, L2.atI xs i = some x ∧ Rp K H m x d := by
  unfold L2.atI at e ⊢
  rw [h.length]
  cases hj : ixN ds.length i with
  | none => rw [hj] at e; cases e
  | some j =>
    rw [hj] at e
    obtain ⟨x, h1, h2⟩ := h.get (i := j) (show ds[j]? = some d from e)
    exact ⟨x, h1, h2⟩

/-! ### subscripts -/
def gIx : G2 := fun a b S => match b with
  | .d (.int i) => match sqOf S a with
    | some (.l ds) => lft S (atI ds i)
    | some (.t ds) => lft S (atI ds i)
    | none => match a with
      | .d (.str z) => if z.length ≤ SZ then lft S ((atI z.cps.toList i).map fun c => .str ⟨#[c]⟩) else .bad
      | _ => .bad
  | _ => .bad
theorem atI_mem {α : Type} {xs : List α} {i : Int} {c : α} (h : atI xs i = some c) : c ∈ xs := by
  unfold atI at h
  cases hj : ixN xs.length i with
  | none => rw [hj] at h; cases h
  | some j => rw [hj] at h; exact List.mem_of_getElem? (show xs[j]? = some c from h)
theorem ixd : IxR X (rD X.K gIx) := by
  intro value slice pins s σ H x y v u Q I rx ry h hs
  obtain ⟨ρ, τ, S, va, vb, r, S', hS, ha, hb, hg, hc⟩ := h
  unfold gIx at hg
  split at hg
  · rename_i i
    cases (show Rp _ _ _ _ _ from hb)
    split at hg
    · rename_i ds e
      obtain ⟨d, h1, rfl, rfl⟩ := lft_ok hg
      obtain ⟨a, xs, rfl, h2, h3⟩ := sq_l hS ha e
      obtain ⟨z, h4, h5⟩ := h3.atI h1
      exact ix_list value slice pins s σ H _ _ v u Q I rx ry ⟨_, _, _, _, rfl, rfl, h2, h4, hc.here hS h5⟩ hs
    · rename_i ds e
      obtain ⟨d, h1, rfl, rfl⟩ := lft_ok hg
      obtain ⟨_, a, xs, rfl, h2, h3⟩ := sq_t ha e
      obtain ⟨z, h4, h5⟩ := h3.atI h1
      exact ix_tup value slice pins s σ H _ _ v u Q I rx ry ⟨_, _, _, _, rfl, rfl, h2, h4, hc.here hS h5⟩ hs
    · split at hg
      · rename_i z e
        split at hg
        · rename_i hz
          obtain ⟨d, h1, rfl, rfl⟩ := lft_ok hg
          obtain ⟨c, h2, rfl⟩ := Option.map_eq_some_iff.mp h1
          cases (show Rp _ _ _ _ _ from ha) with
          | str _ ok => exact ix_str value slice pins s σ H _ _ v u Q I rx ry ⟨_, _, _, rfl, rfl, by rw [← SZ_eq]; exact hz, h2, fin_str I hS (strOk_sub ok fun c' hc' => by
              have e2 : c' = c := by simpa using hc'
              subst e2
              exact atI_mem h2) hc⟩ hs
        · cases hg
      · cases hg
  · cases hg

/-! ### slices -/
def cutD {α : Type} (xs : List α) (lo hi : Option Int) : List α := (xs.drop (HT.sIx xs.length 0 lo)).take (HT.sIx xs.length xs.length hi - HT.sIx xs.length 0 lo)
theorem RpL.cut {m : List Addr} {ds : List PyData} {xs : List V} (h : RpL K H m xs ds) (lo hi : Option Int) : RpL K H m (cutV xs lo hi) (cutD ds lo hi) := by
  unfold cutV cutD
  rw [h.length]
  exact (h.drop _).take _
def gSl (a : Vl) (lo hi : Option Int) (S : Sto) : R Vl := match sqOf S a with
  | some (.l ds) => .ok (.d (.list (cutD ds lo hi))) S
  | some (.t ds) => .ok (.d (.tuple (cutD ds lo hi))) S
  | none => match a with
    | .d (.str z) => if z.length ≤ SZ then .ok (.d (.str ⟨(cutD z.cps.toList lo hi).toArray⟩)) S else .bad
    | _ => .bad
theorem cutD_all {α : Type} (xs : List α) (lo hi : Option Int) (h : HT.sIx xs.length 0 lo = 0 ∧ HT.sIx xs.length xs.length hi = xs.length) : cutD xs lo hi = xs := by
  unfold cutD
  rw [h.1, h.2, List.drop_zero, Nat.sub_zero, List.take_length]
theorem sld : SlR X (rDS X.K gSl) := by
  intro pins s σ H x v vl vu lo hi sl Q I rx hs pl pu h
  obtain ⟨ρ, τ, S, va, r, S', hS, ha, hg, hc⟩ := h
  unfold gSl at hg
  split at hg
  · rename_i ds e
    cases hg
    obtain ⟨a, xs, rfl, h2, h3⟩ := sq_l hS ha e
    exact sl_list pins s σ H _ v vl vu lo hi sl Q I rx hs pl pu ⟨_, _, rfl, h2, fin_lst hS (h3.cut lo hi) hc⟩
  · rename_i ds e
    cases hg
    obtain ⟨_, a, xs, rfl, h2, h3⟩ := sq_t ha e
    refine sl_tupA pins s σ H _ v vl vu lo hi sl Q I rx hs pl pu ⟨_, _, rfl, h2, fun hz => ?_, fun _ => fin_tup hS (h3.cut lo hi) hc⟩
    rw [h3.length] at hz
    rw [cutD_all ds lo hi hz] at hc
    rename_i e1
    subst e1
    exact hc.here hS ha
  · split at hg
    · rename_i z e
      split at hg
      · rename_i hz
        cases hg
        cases (show Rp _ _ _ _ _ from ha) with
        | str _ ok => exact sl_str pins s σ H _ v vl vu lo hi sl Q I rx hs pl pu ⟨_, rfl, by rw [← SZ_eq]; exact hz, fin_str I hS (strOk_sub ok fun c hc' => by
              have h1 : c ∈ cutD z.cps.toList lo hi := by
                have h0 : c ∈ ((cutD z.cps.toList lo hi).toArray).toList := hc'
                rwa [List.toList_toArray] at h0
              exact List.mem_of_mem_drop (List.mem_of_mem_take h1)) hc⟩
      · cases hg
    · cases hg

/-! ### built-in functions -/
def dInt : PyData → Option PyData
  | .int i => some (.int i)
  | .bool b => some (.int (if b then 1 else 0))
  | _ => none
def arg1 (g : G1) : GL := fun vs S => match vs with
  | [a] => g a S
  | _ => .bad
def arg2 (g : G2) : GL := fun vs S => match vs with
  | [a, b] => g a b S
  | _ => .bad
theorem VrL.one {vs : List Vl} {xs : List V} {v : Vl} (h : VrL K H ρ τ xs vs) (e : vs = [v]) : ∃ x, xs = [x] ∧ Vr K H ρ τ x v := by
  subst e
  cases h with
  | cons a b =>
    cases b
    exact ⟨_, rfl, a⟩
theorem VrL.two {vs : List Vl} {xs : List V} {v w : Vl} (h : VrL K H ρ τ xs vs) (e : vs = [v, w]) : ∃ x y, xs = [x, y] ∧ Vr K H ρ τ x v ∧ Vr K H ρ τ y w := by
  subst e
  cases h with
  | cons a b =>
    cases b with
    | cons c d =>
      cases d
      exact ⟨_, _, rfl, a, c⟩
theorem rDL1 {g : G1} {xs : List V} (h : rDL K (arg1 g) xs H Q) : ∃ x ρ τ S va r S', xs = [x] ∧ StR K ρ τ S H ∧ Vr K H ρ τ x va ∧ g va S = .ok r S' ∧ Cont K ρ τ H S' r Q := by
  obtain ⟨ρ, τ, S, vs, r, S', hS, hv, hg, hc⟩ := h
  unfold arg1 at hg
  split at hg
  · obtain ⟨x, rfl, hx⟩ := hv.one rfl
    exact ⟨x, ρ, τ, S, _, r, S', rfl, hS, hx, hg, hc⟩
  · cases hg
theorem rDL2 {g : G2} {xs : List V} (h : rDL K (arg2 g) xs H Q) : ∃ x y ρ τ S va vb r S', xs = [x, y] ∧ StR K ρ τ S H ∧ Vr K H ρ τ x va ∧ Vr K H ρ τ y vb ∧ g va vb S = .ok r S' ∧ Cont K ρ τ H S' r Q := by
  obtain ⟨ρ, τ, S, vs, r, S', hS, hv, hg, hc⟩ := h
  unfold arg2 at hg
  split at hg
  · obtain ⟨x, y, rfl, hx, hy⟩ := hv.two rfl
    exact ⟨x, y, ρ, τ, S, _, _, r, S', rfl, hS, hx, hy, hg, hc⟩
  · cases hg
def gLen : G1 := fun a S => match sqOf S a with
  | some (.l ds) => .ok (.d (.int ds.length)) S
  | some (.t ds) => .ok (.d (.int ds.length)) S
  | none => match a with
    | .d (.str z) => if z.length ≤ SZ then .ok (.d (.int z.length)) S else .bad
    | _ => .bad
theorem cd_len : CallR X (.builtin "len") (rDL X.K (arg1 gLen)) := by
  intro pins s σ H xs us Q I rx h
  obtain ⟨x, ρ, τ, S, va, r, S', rfl, hS, ha, hg, hc⟩ := rDL1 h
  unfold gLen at hg
  split at hg
  · rename_i ds e
    cases hg
    obtain ⟨a, xs, rfl, h2, h3⟩ := sq_l hS ha e
    refine call_len_seq pins s σ H _ us Q I rx ⟨_, _, rfl, .inl h2, ?_⟩
    rw [h3.length]
    exact hc.here hS (show Rp _ _ _ _ _ from .int _)
  · rename_i ds e
    cases hg
    obtain ⟨_, a, xs, rfl, h2, h3⟩ := sq_t ha e
    refine call_len_seq pins s σ H _ us Q I rx ⟨_, _, rfl, .inr h2, ?_⟩
    rw [h3.length]
    exact hc.here hS (show Rp _ _ _ _ _ from .int _)
  · split at hg
    · split at hg
      · rename_i hz
        cases hg
        cases (show Rp _ _ _ _ _ from ha) with
        | str _ ok => exact call_len_str pins s σ H _ us Q I rx ⟨_, rfl, by rw [← SZ_eq]; exact hz, hc.here hS (show Rp _ _ _ _ _ from .int _)⟩
      · cases hg
    · cases hg
theorem cd_int : CallR X (.type "int") (rDL X.K (arg1 (dat1 dInt))) := by
  intro pins s σ H xs us Q I rx h
  obtain ⟨x, ρ, τ, S, va, r, S', rfl, hS, ha, hg, hc⟩ := rDL1 h
  obtain ⟨a, c, rfl, hd, rfl, rfl⟩ := dat1_ok hg
  unfold dInt at hd
  split at hd
  · cases hd
    cases (show Rp _ _ _ _ _ from ha)
    exact call_int1 pins s σ H _ us Q I rx (.inl ⟨_, rfl, hc.here hS (show Rp _ _ _ _ _ from .int _)⟩)
  · cases hd
    cases (show Rp _ _ _ _ _ from ha)
    exact call_int1 pins s σ H _ us Q I rx (.inr ⟨_, rfl, hc.here hS (show Rp _ _ _ _ _ from .int _)⟩)
  · cases hd
def dAbs : PyData → Option PyData
  | .int i => some (.int (if i < 0 then -i else i))
  | _ => none
theorem cd_abs : CallR X (.builtin "abs") (rDL X.K (arg1 (dat1 dAbs))) := by
  intro pins s σ H xs us Q I rx h
  obtain ⟨x, ρ, τ, S, va, r, S', rfl, hS, ha, hg, hc⟩ := rDL1 h
  obtain ⟨a, c, rfl, hd, rfl, rfl⟩ := dat1_ok hg
  unfold dAbs at hd
  split at hd
  · cases hd
    cases (show Rp _ _ _ _ _ from ha)
    exact call_abs pins s σ H _ us Q I rx ⟨_, rfl, hc.here hS (show Rp _ _ _ _ _ from .int _)⟩
  · cases hd
def dMax : PyData → PyData → Option PyData
  | .int i, .int j => some (.int (if j > i then j else i))
  | _, _ => none
def dMin : PyData → PyData → Option PyData
  | .int i, .int j => some (.int (if j < i then j else i))
  | _, _ => none
theorem cd_max (hc : X.calm = true) : CallR X (.builtin "max") (rDL X.K (arg2 (dat2 dMax))) := by
  intro pins s σ H xs us Q I rx h
  obtain ⟨x, y, ρ, τ, S, va, vb, r, S', rfl, hS, ha, hb, hg, hc'⟩ := rDL2 h
  obtain ⟨a, b, c, rfl, rfl, hd, rfl, rfl⟩ := dat2_ok hg
  unfold dMax at hd
  split at hd
  · cases hd
    cases (show Rp _ _ _ _ _ from ha)
    cases (show Rp _ _ _ _ _ from hb)
    exact call_max2 hc pins s σ H _ us Q I rx ⟨_, _, rfl, hc'.here hS (show Rp _ _ _ _ _ from .int _)⟩
  · cases hd
theorem cd_min (hc : X.calm = true) : CallR X (.builtin "min") (rDL X.K (arg2 (dat2 dMin))) := by
  intro pins s σ H xs us Q I rx h
  obtain ⟨x, y, ρ, τ, S, va, vb, r, S', rfl, hS, ha, hb, hg, hc'⟩ := rDL2 h
  obtain ⟨a, b, c, rfl, rfl, hd, rfl, rfl⟩ := dat2_ok hg
  unfold dMin at hd
  split at hd
  · cases hd
    cases (show Rp _ _ _ _ _ from ha)
    cases (show Rp _ _ _ _ _ from hb)
    exact call_min2 hc pins s σ H _ us Q I rx ⟨_, _, rfl, hc'.here hS (show Rp _ _ _ _ _ from .int _)⟩
  · cases hd
theorem strOk_of (x : String) : PySem.PyData.strOk (Str.ofString x) = true := by
  rw [strOk_iff, Str.ofString_eq_toList]
  intro c hc
  simp only [List.mem_map] at hc
  obtain ⟨a, _, rfl⟩ := hc
  have h := a.valid
  rcases h with h | h
  · exact Nat.lt_trans (show a.toNat < 0xd800 from h) (by decide)
  · exact h.2
def dStr : PyData → Option PyData
  | .int i => if i.natAbs.log2 < 1920 then some (.str (toString i)) else none
  | _ => none
theorem cd_str : CallR X (.type "str") (rDL X.K (arg1 (dat1 dStr))) := by
  intro pins s σ H xs us Q I rx h
  obtain ⟨x, ρ, τ, S, va, r, S', rfl, hS, ha, hg, hc⟩ := rDL1 h
  obtain ⟨a, c, rfl, hd, rfl, rfl⟩ := dat1_ok hg
  unfold dStr at hd
  split at hd
  · split at hd
    · rename_i hz
      cases hd
      cases (show Rp _ _ _ _ _ from ha)
      exact call_str_int pins s σ H _ us Q I rx ⟨_, rfl, hz, fin_str I hS (strOk_of _) hc⟩
    · cases hd
  · cases hd
def dOrd : PyData → Option PyData
  | .str x => if x.length = 1 then some (.int (x.cps.getD 0 0 : Nat)) else none
  | _ => none
theorem cd_ord : CallR X (.builtin "ord") (rDL X.K (arg1 (dat1 dOrd))) := by
  intro pins s σ H xs us Q I rx h
  obtain ⟨x, ρ, τ, S, va, r, S', rfl, hS, ha, hg, hc⟩ := rDL1 h
  obtain ⟨a, c, rfl, hd, rfl, rfl⟩ := dat1_ok hg
  unfold dOrd at hd
  split at hd
  · split at hd
    · rename_i hz
      cases hd
      cases (show Rp _ _ _ _ _ from ha)
      exact call_ord pins s σ H _ us Q I rx ⟨_, rfl, hz, hc.here hS (show Rp _ _ _ _ _ from .int _)⟩
    · cases hd
  · cases hd
def gList : G1 := fun a S => match sqOf S a with
  | some (.l ds) => .ok (.d (.list ds)) S
  | some (.t ds) => .ok (.d (.list ds)) S
  | none => .bad
theorem cd_list : CallR X (.type "list") (rDL X.K (arg1 gList)) := by
  intro pins s σ H xs us Q I rx h
  obtain ⟨x, ρ, τ, S, va, r, S', rfl, hS, ha, hg, hc⟩ := rDL1 h
  unfold gList at hg
  split at hg
  · rename_i ds e
    cases hg
    obtain ⟨a, xs, rfl, h2, h3⟩ := sq_l hS ha e
    exact call_list_of pins s σ H _ us Q I rx ⟨_, _, rfl, .inl h2, fin_lst hS h3 hc⟩
  · rename_i ds e
    cases hg
    obtain ⟨_, a, xs, rfl, h2, h3⟩ := sq_t ha e
    exact call_list_of pins s σ H _ us Q I rx ⟨_, _, rfl, .inr h2, fin_lst hS h3 hc⟩
  · cases hg
def gTuple : G1 := fun a S => match sqOf S a with
  | some (.l ds) => .ok (.d (.tuple ds)) S
  | some (.t ds) => .ok (.d (.tuple ds)) S
  | none => .bad
theorem cd_tuple : CallR X (.type "tuple") (rDL X.K (arg1 gTuple)) := by
  intro pins s σ H xs us Q I rx h
  obtain ⟨x, ρ, τ, S, va, r, S', rfl, hS, ha, hg, hc⟩ := rDL1 h
  unfold gTuple at hg
  split at hg
  · rename_i ds e
    cases hg
    obtain ⟨a, xs, rfl, h2, h3⟩ := sq_l hS ha e
    exact call_tuple_of pins s σ H _ us Q I rx ⟨_, _, rfl, .inl ⟨h2, fin_tup hS h3 hc⟩⟩
  · rename_i ds e
    cases hg
    obtain ⟨e1, a, xs, rfl, h2, h3⟩ := sq_t ha e
    subst e1
    exact call_tuple_of pins s σ H _ us Q I rx ⟨_, _, rfl, .inr ⟨h2, hc.here hS ha⟩⟩
  · cases hg
/-- bools of a list -/
def boolsOf : List PyData → Option (List Bool)
  | [] => some []
  | .bool b :: r => (boolsOf r).map (b :: ·)
  | _ :: _ => none
theorem bools_rp {m : List Addr} : ∀ {ds : List PyData} {xs : List V} {bs : List Bool}, RpL K H m xs ds → boolsOf ds = some bs → xs = bs.map V.bl
  | [], _, _, h, e => by cases h; cases e; rfl
  | d :: ds, _, bs, h, e => by
    cases h with
    | cons a b =>
      cases d with
      | bool k =>
        obtain ⟨l, h1, h2⟩ := Option.map_eq_some_iff.mp (show (boolsOf ds).map (k :: ·) = some bs from e)
        subst h2
        cases a
        rw [bools_rp b h1]
        rfl
      | _ => cases e
def gAll : G1 := fun a S => match sqOf S a with
  | some (.l ds) => match boolsOf ds with
    | some bs => .ok (.d (.bool (bs.all id))) S
    | none => .bad
  | _ => .bad
def gAny : G1 := fun a S => match sqOf S a with
  | some (.l ds) => match boolsOf ds with
    | some bs => .ok (.d (.bool (bs.any id))) S
    | none => .bad
  | _ => .bad
theorem cd_all (hc : X.calm = true) : CallR X (.builtin "all") (rDL X.K (arg1 gAll)) := by
  intro pins s σ H xs us Q I rx h
  obtain ⟨x, ρ, τ, S, va, r, S', rfl, hS, ha, hg, hc'⟩ := rDL1 h
  unfold gAll at hg
  split at hg
  · rename_i ds e
    split at hg
    · rename_i bs eb
      cases hg
      obtain ⟨a, xs, rfl, h2, h3⟩ := sq_l hS ha e
      have e3 := bools_rp h3 eb
      subst e3
      exact cr_all hc pins s σ H _ us Q I rx ⟨_, _, rfl, h2, hc'.here hS (show Rp _ _ _ _ _ from .bl _)⟩
    · cases hg
  · cases hg
theorem cd_any (hc : X.calm = true) : CallR X (.builtin "any") (rDL X.K (arg1 gAny)) := by
  intro pins s σ H xs us Q I rx h
  obtain ⟨x, ρ, τ, S, va, r, S', rfl, hS, ha, hg, hc'⟩ := rDL1 h
  unfold gAny at hg
  split at hg
  · rename_i ds e
    split at hg
    · rename_i bs eb
      cases hg
      obtain ⟨a, xs, rfl, h2, h3⟩ := sq_l hS ha e
      have e3 := bools_rp h3 eb
      subst e3
      exact cr_any hc pins s σ H _ us Q I rx ⟨_, _, rfl, h2, hc'.here hS (show Rp _ _ _ _ _ from .bl _)⟩
    · cases hg
  · cases hg

/-! ### isinstance(x, T) -/
def tyName : PyData → Option String
  | .none => some "NoneType"
  | .bool _ => some "bool"
  | .int _ => some "int"
  | .str _ => some "str"
  | .list _ => some "list"
  | .tuple _ => some "tuple"
  | .dict _ => none
def isiB (a b : String) : Bool := a == b || (a == "bool" && b == "int")
def isiTs : List String := ["tuple", "str", "int", "bool", "list"]
theorem isi_ok {a b : String} (ha : a = "NoneType" ∨ a = "bool" ∨ a = "int" ∨ a = "str" ∨ a = "list" ∨ a = "tuple") (hb : b ∈ isiTs) : kitB a b = some (isiB a b) := by
  simp only [isiTs, List.mem_cons, List.mem_nil_iff, or_false] at hb
  rcases ha with rfl | rfl | rfl | rfl | rfl | rfl <;> rcases hb with rfl | rfl | rfl | rfl | rfl <;> decide +kernel
def gIsi (T : String) : G1 := fun a S => match a with
  | .d d => match tyName d with
    | some n => .ok (.d (.bool (isiB n T))) S
    | none => .bad
  | .o n => match S[n]? with
    | some (.lst _) => .ok (.d (.bool (isiB "list" T))) S
    | _ => .bad
  | _ => .bad
theorem ty_rp {m : List Addr} {d : PyData} {x : V} {n : String} (h : Rp K H m x d) (e : tyName d = some n) : TyX K H x (.type n) ∧ (n = "NoneType" ∨ n = "bool" ∨ n = "int" ∨ n = "str" ∨ n = "list" ∨ n = "tuple") := by
  cases h with
  | non => cases e; exact ⟨.base .non, by simp⟩
  | bl b => cases e; exact ⟨.base (.bl b), by simp⟩
  | int i => cases e; exact ⟨.base (.int i), by simp⟩
  | str x ok => cases e; exact ⟨.base (.str x), by simp⟩
  | lst ta qa => cases e; exact ⟨.base (.lst ta.1), by simp⟩
  | tup ta qa =>
    cases e
    refine ⟨?_, by simp⟩
    rcases ta with ⟨h | ⟨o, h⟩, _⟩ | ⟨o, its, n, h, c, _⟩
    · exact .base (.tup h)
    · exact .fTuple h
    · exact .kTuple h c
theorem cd_isi {T : String} (hT : T ∈ isiTs) : CallR X (.builtin "isinstance") (fun xs H Q => ∃ x, xs = [x, .ty T] ∧ rD1 X.K (gIsi T) x H Q) := by
  intro pins s σ H xs us Q I rx h
  obtain ⟨x, rfl, ρ, τ, S, va, r, S', hS, ha, hg, hc⟩ := h
  unfold gIsi at hg
  split at hg
  · split at hg
    · rename_i d n e
      cases hg
      obtain ⟨h1, h2⟩ := ty_rp ha e
      exact call_isi pins s σ H _ us Q I rx ⟨x, .ty T, _, _, _, rfl, .ty T, h1, kit_ty (isi_ok h2 hT), hc.here hS (show Rp _ _ _ _ _ from .bl _)⟩
    · cases hg
  · rename_i n
    split at hg
    · rename_i ds e
      cases hg
      obtain ⟨a, h1, rfl⟩ := ha
      obtain ⟨xs, h2, h3⟩ := hS.get h1 e
      exact call_isi pins s σ H _ us Q I rx ⟨_, .ty T, _, _, _, rfl, .ty T, .base (.lst h2), kit_ty (isi_ok (by simp) hT), hc.here hS (show Rp _ _ _ _ _ from .bl _)⟩
    · cases hg
  · cases hg

/-! ### truth -/
def truO : PyData → Option Bool
  | .none => some false
  | .bool b => some b
  | .int i => some (i != 0)
  | .str y => if y.length ≤ SZ then some (y.length != 0) else none
  | .list ds => some (!ds.isEmpty)
  | .tuple ds => some (!ds.isEmpty)
  | .dict _ => none
def gTru (v : Vl) (S : Sto) : Option Bool := match v with
  | .d d => truO d
  | .o n => (lstOf S n).map fun ds => !ds.isEmpty
  | .k ds => some (!ds.isEmpty)
theorem RpL.empty {m : List Addr} {ds : List PyData} {xs : List V} (h : RpL K H m xs ds) : xs.isEmpty = ds.isEmpty := by
  cases h <;> rfl
theorem tru_rp (hS : StR K ρ τ S H) {v : Vl} {x : V} {b : Bool} (h : Vr K H ρ τ x v) (e : gTru v S = some b) : TruV K x H b := by
  cases v with
  | d d =>
    have h : Rp K H (ρ ++ τ) x d := h
    have e : truO d = some b := e
    cases h with
    | non => cases e; rfl
    | bl b => cases e; rfl
    | int i => cases e; rfl
    | str x ok =>
      have e : (if x.length ≤ SZ then some (x.length != 0) else none) = some b := e
      split at e
      · rename_i hz
        cases e
        refine ⟨by rw [← SZ_eq]; exact hz, ?_⟩
        rw [Bool.eq_iff_iff]
        simp
      · cases e
    | lst ta qa =>
      cases e
      exact .inl ⟨_, ta.sq, by rw [qa.empty]⟩
    | tup ta qa =>
      cases e
      exact .inr (.inl ⟨_, ta.sq, by rw [qa.empty]⟩)
  | o n =>
    obtain ⟨ds, h1, rfl⟩ := Option.map_eq_some_iff.mp (show (lstOf S n).map _ = some b from e)
    obtain ⟨a, ha, rfl⟩ := h
    obtain ⟨xs, h3, h4⟩ := hS.lstAt ha h1
    exact .inl ⟨_, .of h3, by rw [h4.empty]⟩
  | k ds =>
    cases e
    obtain ⟨a, xs, rfl, h1, h2⟩ := h
    exact .inl ⟨_, h1.sq, by rw [h2.empty]⟩
end
end L2.Pv

set_option Elab.async false
set_option linter.all false
set_option maxRecDepth 100000
namespace L2.Pv
open PySem PySem.Spec PyProof.Rows L2

/-! ### what the parts of a text mean -/
abbrev SE := Env → Sto → R Vl
abbrev ST := Env → Sto → R Bool
abbrev SA := Env → Sto → R (List Vl)
def LE (K : PySem.W.Frag) (f : SE) : TE := fun σ H Q => ∃ Γ S ρ τ v S', StR K ρ τ S H ∧ EnR K H ρ τ σ Γ ∧ f Γ S = .ok v S' ∧ Cont K ρ τ H S' v Q
def LT (K : PySem.W.Frag) (f : ST) : TT := fun σ H Q => ∃ Γ S ρ τ v S', StR K ρ τ S H ∧ EnR K H ρ τ σ Γ ∧ f Γ S = .ok v S' ∧ ContB K ρ τ H S' v Q
def LA (K : PySem.W.Frag) (f : SA) : TA := fun σ H Q => ∃ Γ S ρ τ v S', StR K ρ τ S H ∧ EnR K H ρ τ σ Γ ∧ f Γ S = .ok v S' ∧ ContL K ρ τ H S' v Q

def sVar (i : Nat) : SE := fun Γ S => match Γ[i]? with
  | some (some v) => .ok v S
  | _ => .bad
def sCon (d : PyData) : SE := fun _ S => .ok (.d d) S
def sBin (g : G2) (a b : SE) : SE := fun Γ S => (a Γ S).bind fun x S1 => (b Γ S1).bind fun y S2 => g x y S2
def sUn (g : G1) (a : SE) : SE := fun Γ S => (a Γ S).bind fun x S1 => g x S1
def sArgs : List SE → SA
  | [] => fun _ S => .ok [] S
  | f :: fs => fun Γ S => (f Γ S).bind fun v S1 => (sArgs fs Γ S1).bind fun vs S2 => .ok (v :: vs) S2
def sCall (g : GL) (fs : List SE) : SE := fun Γ S => (sArgs fs Γ S).bind g
def datas : List Vl → Option (List PyData)
  | [] => some []
  | .d d :: r => (datas r).map (d :: ·)
  | _ :: _ => none
def gTup : GL := fun vs S => match datas vs with
  | some ds => if ds.length ≤ SZ then .ok (.d (.tuple ds)) S else .bad
  | none => .bad
def gLst : GL := fun vs S => match datas vs with
  | some ds => if ds.length ≤ SZ then .ok (.d (.list ds)) S else .bad
  | none => .bad
/-- a list that will change -/
def gNew : GL := fun vs S => match datas vs with
  | some ds => if ds.length ≤ SZ then .ok (.o S.length) (S ++ [.lst ds]) else .bad
  | none => .bad
def boolOf : Vl → Option Bool
  | .d (.bool b) => some b
  | _ => none
def sTst (a : SE) : ST := fun Γ S => (a Γ S).bind fun v S1 => match boolOf v with
  | some b => .ok b S1
  | none => .bad
def sTru (a : SE) : ST := fun Γ S => (a Γ S).bind fun v S1 => match gTru v S1 with
  | some b => .ok b S1
  | none => .bad
def sNot (a : ST) : ST := fun Γ S => (a Γ S).bind fun b S1 => .ok (!b) S1
def sAnd (a b : ST) : ST := fun Γ S => (a Γ S).bind fun x S1 => if x = true then b Γ S1 else .ok false S1
def sOr (a b : ST) : ST := fun Γ S => (a Γ S).bind fun x S1 => if x = true then .ok true S1 else b Γ S1
def sVal (a : ST) : SE := fun Γ S => (a Γ S).bind fun b S1 => .ok (.d (.bool b)) S1
def sIf (c : ST) (a b : SE) : SE := fun Γ S => (c Γ S).bind fun x S1 => if x = true then a Γ S1 else b Γ S1
def intOf : Vl → Option Int
  | .d (.int i) => some i
  | _ => none
def sPart : Option SE → Env → Sto → R (Option Int)
  | none => fun _ S => .ok none S
  | some f => fun Γ S => (f Γ S).bind fun v S1 => match intOf v with
    | some i => .ok (some i) S1
    | none => .bad
def sSl (a : SE) (lo hi : Option SE) : SE := fun Γ S => (a Γ S).bind fun x S1 => (sPart lo Γ S1).bind fun l S2 => (sPart hi Γ S2).bind fun h S3 => gSl x l h S3
def sMet (g : Vl → GL) (a : SE) (fs : List SE) : SE := fun Γ S => (a Γ S).bind fun x S1 => (sArgs fs Γ S1).bind fun vs S2 => g x vs S2

section
variable {X : Cx} {a b c : Expr} {fa fb : SE} {ta tb : ST} {pos : Pos} {σ : L2.St} {H : Hp} {Q : VK}
theorem _root_.L2.PE.weak {e : Expr} {t t' : TE} (h : PE X e t) (w : ∀ σ H Q, t' σ H Q → t σ H Q) : PE X e t' := ⟨fun pins s σ H Q I hq => h.run pins s σ H Q I (w _ _ _ hq)⟩
theorem _root_.L2.PT.weak {e : Expr} {t t' : TT} (h : PT X e t) (w : ∀ σ H Q, t' σ H Q → t σ H Q) : PT X e t' := ⟨fun pins s σ H Q I hq => h.run pins s σ H Q I (w _ _ _ hq)⟩
theorem _root_.L2.PW.weak {e : Expr} {t t' : TT} (h : PW X e t) (w : ∀ σ H Q, t' σ H Q → t σ H Q) : PW X e t' := ⟨fun u pins s σ H Q I hq => h.run u pins s σ H Q I (w _ _ _ hq)⟩
theorem _root_.L2.PA.weak {e : List Expr} {t t' : TA} (h : PA X e t) (w : ∀ σ H Q, t' σ H Q → t σ H Q) : PA X e t' := ⟨fun p pins s σ H Q I hq => h.run p pins s σ H Q I (w _ _ _ hq)⟩

theorem le_var {i : Nat} {x : Str} (hN : X.N[i]? = some x) (hv : Vis X.env.scope x) (hd : (x == ("__debug__" : Str)) = false) (hcd : (x == ("__classdict__" : Str)) = false) : PE X (.Name x pos) (LE X.K (sVar i)) :=
  (pe_var hN hv hd hcd).weak fun σ H Q ⟨Γ, S, ρ, τ, v, S', hS, hE, hf, hc⟩ => by
    unfold sVar at hf
    split at hf
    · rename_i v e
      cases hf
      obtain ⟨x, h1, h2⟩ := hE.get e
      exact ⟨x, h1, hc.here hS h2⟩
    · cases hf
theorem le_con {e : Expr} {v : V} {d : PyData} (h : PE X e (tC v)) (r : ∀ H m, Rp X.K H m v d) : PE X e (LE X.K (sCon d)) :=
  h.weak fun σ H Q ⟨Γ, S, ρ, τ, v', S', hS, hE, hf, hc⟩ => by
    cases hf
    exact hc.here hS (r H _)
/-- a chain of two -/
theorem le_two {K : PySem.W.Frag} {g : G2} {RR : V → V → Hp → VK → Prop} (hR : ∀ x y H Q, rD K g x y H Q → RR x y H Q) (h : LE K (sBin g fa fb) σ H Q) : LE K fa σ H fun x H1 => LE K fb σ H1 fun y H2 => RR x y H2 Q := by
  obtain ⟨Γ, S, ρ, τ, v, S', hS, hE, hf, hc⟩ := h
  obtain ⟨va, S1, h1, hf⟩ := R.bind_ok hf
  obtain ⟨vb, S2, h2, hf⟩ := R.bind_ok hf
  refine ⟨Γ, S, ρ, τ, va, S1, hS, hE, h1, fun ρ1 H1 x x1 hS1 q1 => ?_⟩
  refine ⟨Γ, S1, ρ1, τ, vb, S2, hS1, hE.ext x1, h2, fun ρ2 H2 y x2 hS2 q2 => ?_⟩
  exact hR _ _ _ _ ⟨ρ2, τ, S2, va, vb, v, S', hS2, q1.ext x2, q2, hf, fun ρ3 H3 z x3 hS3 q3 => hc ρ3 H3 z ((x1.trans x2).trans x3) hS3 q3⟩
theorem le_bin {op : Operator} {g : G2} (ho : OpR X (binaryOp op) (rD X.K g)) (ha : PE X a (LE X.K fa)) (hb : PE X b (LE X.K fb)) : PE X (.BinOp a op b pos) (LE X.K (sBin g fa fb)) :=
  (pe_op ho ha hb).weak fun σ H Q h => le_two (fun _ _ _ _ q => q) h
theorem le_cmp {op : CmpOp} {g : G2} (ho : OpR X (compareOp op) (rD X.K g)) (ha : PE X a (LE X.K fa)) (hb : PE X b (LE X.K fb)) (hm : behindInMarks op b = false) : PE X (.Compare a [op] [b] pos) (LE X.K (sBin g fa fb)) :=
  (pe_cmpR ho ha hb hm).weak fun σ H Q h => le_two (fun _ _ _ _ q => q) h
theorem le_ix (ha : PE X a (LE X.K fa)) (hb : PE X b (LE X.K fb)) (hs : PlainIx b) : PE X (.Subscript a b pos) (LE X.K (sBin gIx fa fb)) :=
  (pe_ix ixd ha hb hs).weak fun σ H Q h => le_two (fun _ _ _ _ q => q) h
theorem le_one {K : PySem.W.Frag} {g : G1} {RR : V → Hp → VK → Prop} (hR : ∀ x H Q, rD1 K g x H Q → RR x H Q) (h : LE K (sUn g fa) σ H Q) : LE K fa σ H fun x H1 => RR x H1 Q := by
  obtain ⟨Γ, S, ρ, τ, v, S', hS, hE, hf, hc⟩ := h
  obtain ⟨va, S1, h1, hf⟩ := R.bind_ok hf
  exact ⟨Γ, S, ρ, τ, va, S1, hS, hE, h1, fun ρ1 H1 x x1 hS1 q1 => hR _ _ _ ⟨ρ1, τ, S1, va, v, S', hS1, q1, hf, fun ρ3 H3 z x3 hS3 q3 => hc ρ3 H3 z (x1.trans x3) hS3 q3⟩⟩
theorem le_un {op : UnaryOp} {g : G1} (ho : UnR X (unaryOp op) (rD1 X.K g)) (ha : PE X a (LE X.K fa)) : PE X (.UnaryOp op a pos) (LE X.K (sUn g fa)) :=
  (pe_un ho ha).weak fun σ H Q h => le_one (fun _ _ _ q => q) h
def dNeg : PyData → Option PyData
  | .int i => some (.int (-i))
  | _ => none
theorem und_neg : UnR X (unaryOp .USub) (rD1 X.K (dat1 dNeg)) := by
  intro pins s σ H x v Q I rx h
  obtain ⟨ρ, τ, S, va, r, S', hS, ha, hg, hc⟩ := h
  obtain ⟨a, c, rfl, hd, rfl, rfl⟩ := dat1_ok hg
  unfold dNeg at hd
  split at hd
  · cases hd
    cases (show Rp _ _ _ _ _ from ha)
    exact un_neg pins s σ H _ v Q I rx ⟨_, rfl, hc.here hS (show Rp _ _ _ _ _ from .int _)⟩
  · cases hd
/-- is None -/
def gIsN (neg : Bool) : G2 := fun a b S => match b with
  | .d .none => match a with
    | .d .none => .ok (.d (.bool (!neg))) S
    | .d (.bool _) => .ok (.d (.bool neg)) S
    | .d (.int _) => .ok (.d (.bool neg)) S
    | .d (.str _) => .ok (.d (.bool neg)) S
    | .d (.list _) => .ok (.d (.bool neg)) S
    | .d (.tuple _) => .ok (.d (.bool neg)) S
    | .o _ => .ok (.d (.bool neg)) S
    | _ => .bad
  | _ => .bad
theorem isN_val {K : PySem.W.Frag} {neg : Bool} {ρ τ : List Addr} {S S' : Sto} {va vb r : Vl} {x y : V} (ha : Vr K H ρ τ x va) (hb : Vr K H ρ τ y vb) (h : gIsN neg va vb S = .ok r S') : y = .non ∧ S' = S ∧ r = .d (.bool (decide (x = .non) != neg)) := by
  unfold gIsN at h
  split at h
  · cases (show Rp _ _ _ _ _ from hb)
    refine ⟨rfl, ?_⟩
    split at h
    · cases (show Rp _ _ _ _ _ from ha)
      cases h
      cases neg <;> exact ⟨rfl, rfl⟩
    · cases (show Rp _ _ _ _ _ from ha)
      cases h
      cases neg <;> exact ⟨rfl, rfl⟩
    · cases (show Rp _ _ _ _ _ from ha)
      cases h
      cases neg <;> exact ⟨rfl, rfl⟩
    · cases (show Rp _ _ _ _ _ from ha)
      cases h
      cases neg <;> exact ⟨rfl, rfl⟩
    · cases (show Rp _ _ _ _ _ from ha)
      cases h
      cases neg <;> exact ⟨rfl, rfl⟩
    · cases (show Rp _ _ _ _ _ from ha)
      cases h
      cases neg <;> exact ⟨rfl, rfl⟩
    · obtain ⟨a, _, rfl⟩ := ha
      cases h
      cases neg <;> exact ⟨rfl, rfl⟩
    · cases h
  · cases h
theorem opd_is : OpR X (compareOp .Is) (rD X.K (gIsN false)) := by
  intro pins s σ H x y v u Q I rx ry h
  obtain ⟨ρ, τ, S, va, vb, r, S', hS, ha, hb, hg, hc⟩ := h
  obtain ⟨e, rfl, rfl⟩ := isN_val ha hb hg
  refine op_isN pins s σ H x y v u Q I rx ry ⟨e, ?_⟩
  have := hc.here hS (show Rp _ _ _ _ _ from .bl _)
  simpa using this
theorem opd_isnot : OpR X (compareOp .IsNot) (rD X.K (gIsN true)) := by
  intro pins s σ H x y v u Q I rx ry h
  obtain ⟨ρ, τ, S, va, vb, r, S', hS, ha, hb, hg, hc⟩ := h
  obtain ⟨e, rfl, rfl⟩ := isN_val ha hb hg
  refine op_notN pins s σ H x y v u Q I rx ry ⟨e, ?_⟩
  have := hc.here hS (show Rp _ _ _ _ _ from .bl _)
  simpa using this

/-! ### arguments -/
theorem la_nil : PA X [] (LA X.K (sArgs [])) := pa_nil.weak fun σ H Q ⟨Γ, S, ρ, τ, v, S', hS, hE, hf, hc⟩ => by
  cases hf
  exact hc ρ H [] (Ext.refl hS) hS .nil
theorem la_cons {es : List Expr} {fs : List SE} (ha : PE X a (LE X.K fa)) (hr : PA X es (LA X.K (sArgs fs))) (hs : starEach (a :: es) X.env = (false, eval a X.env) :: starEach es X.env) : PA X (a :: es) (LA X.K (sArgs (fa :: fs))) :=
  (pa_cons ha hr hs).weak fun σ H Q ⟨Γ, S, ρ, τ, v, S', hS, hE, hf, hc⟩ => by
    obtain ⟨va, S1, h1, hf⟩ := R.bind_ok hf
    obtain ⟨vs, S2, h2, hf⟩ := R.bind_ok hf
    cases hf
    refine ⟨Γ, S, ρ, τ, va, S1, hS, hE, h1, fun ρ1 H1 x x1 hS1 q1 => ?_⟩
    refine ⟨Γ, S1, ρ1, τ, _, _, hS1, hE.ext x1, h2, fun ρ2 H2 xs x2 hS2 q2 => ?_⟩
    exact hc ρ2 H2 _ (x1.trans x2) hS2 (.cons (q1.ext x2) q2)
theorem le_args {K : PySem.W.Frag} {g : GL} {fs : List SE} {RR : List V → Hp → VK → Prop} (hR : ∀ xs H Q, rDL K g xs H Q → RR xs H Q) (h : LE K (sCall g fs) σ H Q) : LA K (sArgs fs) σ H fun xs H1 => RR xs H1 Q := by
  obtain ⟨Γ, S, ρ, τ, v, S', hS, hE, hf, hc⟩ := h
  obtain ⟨vs, S1, h1, hf⟩ := R.bind_ok hf
  exact ⟨Γ, S, ρ, τ, vs, S1, hS, hE, h1, fun ρ1 H1 xs x1 hS1 q1 => hR _ _ _ ⟨ρ1, τ, S1, vs, v, S', hS1, q1, hf, fun ρ3 H3 z x3 hS3 q3 => hc ρ3 H3 z (x1.trans x3) hS3 q3⟩⟩
theorem datas_rp {K : PySem.W.Frag} {ρ τ : List Addr} : ∀ {vs : List Vl} {xs : List V} {ds : List PyData}, VrL K H ρ τ xs vs → datas vs = some ds → RpL K H (ρ ++ τ) xs ds
  | [], _, _, h, e => by
    cases h
    cases e
    exact .nil
  | v :: vs, _, ds, h, e => by
    cases h with
    | cons h1 h2 =>
      cases v with
      | d d =>
        obtain ⟨l, e1, e2⟩ := Option.map_eq_some_iff.mp (show (datas vs).map (d :: ·) = some ds from e)
        subst e2
        exact .cons h1 (datas_rp h2 e1)
      | o n => cases e
      | k l => cases e
theorem le_tup {es : List Expr} {fs : List SE} {x1 : Nat} (h : PA X es (LA X.K (sArgs fs))) : PE X (.Tuple es x1 pos) (LE X.K (sCall gTup fs)) :=
  (pe_tup h).weak fun σ H Q hq => le_args (RR := fun xs H1 Q => xs.length ≤ sizeLine ∧ ∀ p, H1 p = none → Q (.ref p) (upd H1 p (.tup xs))) (fun xs H Q ⟨ρ, τ, S, vs, r, S', hS, hv, hg, hc⟩ => by
    unfold gTup at hg
    split at hg
    · rename_i ds e
      split at hg
      · rename_i hz
        cases hg
        have q := datas_rp hv e
        exact ⟨by rw [q.length, ← SZ_eq]; exact hz, fin_tup hS q hc⟩
      · cases hg
    · cases hg) hq
theorem le_lst {es : List Expr} {fs : List SE} (h : PA X es (LA X.K (sArgs fs))) : PE X (.List es pos) (LE X.K (sCall gLst fs)) :=
  (pe_lst h).weak fun σ H Q hq => le_args (RR := fun xs H1 Q => xs.length ≤ sizeLine ∧ ∀ p, H1 p = none → Q (.ref p) (upd H1 p (.lst xs))) (fun xs H Q ⟨ρ, τ, S, vs, r, S', hS, hv, hg, hc⟩ => by
    unfold gLst at hg
    split at hg
    · rename_i ds e
      split at hg
      · rename_i hz
        cases hg
        have q := datas_rp hv e
        exact ⟨by rw [q.length, ← SZ_eq]; exact hz, fin_lst hS q hc⟩
      · cases hg
    · cases hg) hq
theorem le_new {es : List Expr} {fs : List SE} (h : PA X es (LA X.K (sArgs fs))) : PE X (.List es pos) (LE X.K (sCall gNew fs)) :=
  (pe_lst h).weak fun σ H Q hq => le_args (RR := fun xs H1 Q => xs.length ≤ sizeLine ∧ ∀ p, H1 p = none → Q (.ref p) (upd H1 p (.lst xs))) (fun xs H Q ⟨ρ, τ, S, vs, r, S', hS, hv, hg, hc⟩ => by
    unfold gNew at hg
    split at hg
    · rename_i ds e
      split at hg
      · rename_i hz
        cases hg
        have q := datas_rp hv e
        refine ⟨by rw [q.length, ← SZ_eq]; exact hz, fun p hp => ?_⟩
        have hn := hS.notin hp
        have q2 : RpL X.K (upd H p (.lst xs)) ((ρ ++ [p]) ++ τ) xs ds := RpL.cov ⟨fun b u hb _ => by rw [upd_ne (ne_of_none hb hp)]; exact hb, fun b u hb hm hm2 => by
          rcases List.mem_append.mp hm2 with hm2 | hm2
          · rcases List.mem_append.mp hm2 with hm2 | hm2
            · exact hm (List.mem_append_left _ hm2)
            · have e2 : b = p := by simpa using hm2
              subst e2
              rw [hp] at hb
              cases hb
          · exact hm (List.mem_append_right _ hm2)⟩ _ _ q
        obtain ⟨h1, h2⟩ := hS.alloc (u := .lst ds) hp ⟨xs, upd_same, q2⟩
        refine hc _ _ _ h2 h1 ⟨p, ?_, rfl⟩
        rw [← hS.len, List.getElem?_append_right (Nat.le_refl _), Nat.sub_self]
        rfl
      · cases hg
    · cases hg) hq
/-- a built-in function -/
theorem le_callB {g : GL} {id : String} {x : Str} {p : Pos} {es : List Expr} {fs : List SE} (hc : CallR X (.builtin id) (rDL X.K g)) (hg : Gl X x) (hm : X.mg x = none) (hv : bootBuiltins x = some (.builtin id)) (ha : PA X (a :: es) (LA X.K (sArgs fs)))
    (hn : x ≠ "__name__") (hdb : (x == ("__debug__" : Str)) = false) (he : starEach (a :: es) X.env = (false, eval a X.env) :: starEach es X.env) (hpl : (backTo pos (starEach es X.env)).any (·.1) = false) : PE X (.Call (.Name x p) (a :: es) [] pos) (LE X.K (sCall g fs)) :=
  (pe_callB hc hg hm hv ha hn hdb he hpl).weak fun σ H Q hq => le_args (fun _ _ _ q => q) hq
theorem le_callTy {g : GL} {T : String} {x : Str} {p : Pos} {es : List Expr} {fs : List SE} (hc : CallR X (.type T) (rDL X.K g)) (hg : Gl X x) (hm : X.mg x = none) (hv : bootBuiltins x = some (.type T)) (ha : PA X (a :: es) (LA X.K (sArgs fs)))
    (hn : x ≠ "__name__") (hdb : (x == ("__debug__" : Str)) = false) (he : starEach (a :: es) X.env = (false, eval a X.env) :: starEach es X.env) (hpl : (backTo pos (starEach es X.env)).any (·.1) = false) : PE X (.Call (.Name x p) (a :: es) [] pos) (LE X.K (sCall g fs)) :=
  (pe_callTy hc hg hm hv ha hn hdb he hpl).weak fun σ H Q hq => le_args (fun _ _ _ q => q) hq
/-- what a def promises -/
def SpD (K : PySem.W.Frag) (n : Nat) (g : GL) : Sp := fun vs H Q _ => vs.length = n ∧ rDL K g vs H Q
theorem len_args {K : PySem.W.Frag} : ∀ {fs : List SE} {Γ : Env} {S S' : Sto} {vs : List Vl}, sArgs fs Γ S = .ok vs S' → vs.length = fs.length
  | [], _, _, _, _, h => by cases h; rfl
  | f :: fs, _, _, _, _, h => by
    obtain ⟨va, S1, h1, h⟩ := R.bind_ok h
    obtain ⟨vs, S2, h2, h⟩ := R.bind_ok h
    cases h
    show _ + 1 = _ + 1
    rw [len_args (K := K) h2]
theorem le_call {k : Nat} {f : Addr} {fd : FuncData} {ps : List Str} {g : GL} {x : Str} {p : Pos} {es : List Expr} {fs : List SE} (F : FnOk X.prog X.w X.K X.mg X.base CX0 k f fd ps (SpD X.K fs.length g)) (hr : Room k X.A) (hg : Gl X x) (hm : X.mg x = some (.ref f)) (hk : PySem.W.keepIn X.K (.ref f) = true) (hb : Binds X.K fd ps [])
    (ha : PA X (a :: es) (LA X.K (sArgs fs))) (hdb : (x == ("__debug__" : Str)) = false) (he : starEach (a :: es) X.env = (false, eval a X.env) :: starEach es X.env) (hpl : (backTo pos (starEach es X.env)).any (·.1) = false) :
    PE X (.Call (.Name x p) (a :: es) [] pos) (LE X.K (sCall g fs)) :=
  (pe_call F hr hg hm hk hb .nil pass0 ha hdb he hpl).weak fun σ H Q hq => by
    obtain ⟨Γ, S, ρ, τ, v, S', hS, hE, hf, hc⟩ := hq
    obtain ⟨vs, S1, h1, hf⟩ := R.bind_ok hf
    refine ⟨Γ, S, ρ, τ, vs, S1, hS, hE, h1, fun ρ1 H1 xs x1 hS1 q1 => ?_⟩
    show SpD X.K fs.length g (xs ++ []) H1 Q _
    rw [List.append_nil]
    exact ⟨by rw [Paired.length q1, len_args (K := X.K) h1], ρ1, τ, S1, vs, v, S', hS1, q1, hf, fun ρ3 H3 z x3 hS3 q3 => hc ρ3 H3 z (x1.trans x3) hS3 q3⟩
theorem le_call0 {k : Nat} {f : Addr} {fd : FuncData} {ps : List Str} {g : GL} {x : Str} {p : Pos} (F : FnOk X.prog X.w X.K X.mg X.base CX0 k f fd ps (SpD X.K 0 g)) (hr : Room k X.A) (hg : Gl X x) (hm : X.mg x = some (.ref f)) (hk : PySem.W.keepIn X.K (.ref f) = true) (hb : Binds X.K fd ps [])
    (hdb : (x == ("__debug__" : Str)) = false) : PE X (.Call (.Name x p) [] [] pos) (LE X.K (sCall g [])) :=
  (pe_call0 F hr hg hm hk hb .nil pass0 hdb).weak fun σ H Q hq => by
    obtain ⟨Γ, S, ρ, τ, v, S', hS, hE, hf, hc⟩ := hq
    exact ⟨rfl, ρ, τ, S, [], v, S', hS, .nil, hf, hc⟩
/-- isinstance(e, T) -/
theorem le_isi {T : String} {x : Str} {p p2 : Pos} (hT : T ∈ isiTs) (hg : Gl X "isinstance") (hm : X.mg "isinstance" = none) (ha : PE X a (LE X.K fa)) (hgT : Gl X x) (hmT : X.mg x = none) (hvT : bootBuiltins x = some (.type T)) (hn : x ≠ "__name__") (hdT : (x == ("__debug__" : Str)) = false)
    (he : starEach [a, .Name x p2] X.env = (false, eval a X.env) :: starEach [.Name x p2] X.env) : PE X (.Call (.Name "isinstance" p) [a, .Name x p2] [] pos) (LE X.K (sUn (gIsi T) fa)) :=
  (pe_callB (cd_isi hT) hg hm (by decide +kernel) (pa_cons ha (pa_cons (pe_bltn (v := .ty T) hgT hmT hvT rfl hn hdT) pa_nil rfl) he) (by decide) (by decide) he (by rfl)).weak fun σ H Q hq =>
    le_one (RR := fun x H1 Q => ∃ y, [x, .ty T] = [y, .ty T] ∧ rD1 X.K (gIsi T) y H1 Q) (fun x H Q q => ⟨x, rfl, q⟩) hq

/-! ### tests -/
theorem lt_val (ha : PE X a (LE X.K fa)) (he : ∀ whole, isTrue a X.env whole = (do let v ← whole; standAt a.pos; holding [v] (truthy v))) : PT X a (LT X.K (sTru fa)) :=
  (pt_truth ha he).weak fun σ H Q ⟨Γ, S, ρ, τ, v, S', hS, hE, hf, hc⟩ => by
    obtain ⟨va, S1, h1, hf⟩ := R.bind_ok hf
    refine ⟨Γ, S, ρ, τ, va, S1, hS, hE, h1, fun ρ1 H1 x x1 hS1 q1 => ?_⟩
    split at hf
    · rename_i b e
      cases hf
      exact ⟨_, tru_rp hS1 q1 e, hc ρ1 H1 x1 hS1⟩
    · cases hf
theorem tst_of {K : PySem.W.Frag} {Q : Bool → Hp → Prop} {fa : SE} (h : LT K (sTst fa) σ H Q) : LE K fa σ H fun x H1 => ∃ k, x = .bl k ∧ Q k H1 := by
  obtain ⟨Γ, S, ρ, τ, v, S', hS, hE, hf, hc⟩ := h
  obtain ⟨va, S1, h1, hf⟩ := R.bind_ok hf
  refine ⟨Γ, S, ρ, τ, va, S1, hS, hE, h1, fun ρ1 H1 x x1 hS1 q1 => ?_⟩
  split at hf
  · rename_i b e
    cases hf
    unfold boolOf at e
    split at e
    · cases e
      cases (show Rp _ _ _ _ _ from q1)
      exact ⟨_, rfl, hc ρ1 H1 x1 hS1⟩
    · cases e
  · cases hf
theorem lt_cmp {op : CmpOp} {g : G2} (ho : OpR X (compareOp op) (rD X.K g)) (ha : PE X a (LE X.K fa)) (hb : PE X b (LE X.K fb)) (hm : behindInMarks op b = false) : PT X (.Compare a [op] [b] pos) (LT X.K (sTst (sBin g fa fb))) :=
  (pt_cmpR ho ha hb hm).weak fun σ H Q h => le_two (fun _ _ _ _ q => q) (tst_of h)
theorem lt_not (ha : PT X a (LT X.K ta)) : PT X (.UnaryOp .Not a pos) (LT X.K (sNot ta)) :=
  (pt_not ha).weak fun σ H Q ⟨Γ, S, ρ, τ, v, S', hS, hE, hf, hc⟩ => by
    obtain ⟨va, S1, h1, hf⟩ := R.bind_ok hf
    cases hf
    exact ⟨Γ, S, ρ, τ, _, _, hS, hE, h1, hc⟩
theorem lw_and1 (ha : PT X a (LT X.K ta)) : PW X (.BoolOp .And [a] pos) (LT X.K ta) := pw_and1 ha
theorem lw_or1 (ha : PT X a (LT X.K ta)) : PW X (.BoolOp .Or [a] pos) (LT X.K ta) := pw_or1 ha
theorem lw_and {rest : List Expr} (ha : PT X a (LT X.K ta)) (hb : PW X (.BoolOp .And (b :: rest) pos) (LT X.K tb)) : PW X (.BoolOp .And (a :: b :: rest) pos) (LT X.K (sAnd ta tb)) :=
  (pw_and ha hb).weak fun σ H Q ⟨Γ, S, ρ, τ, v, S', hS, hE, hf, hc⟩ => by
    obtain ⟨va, S1, h1, hf⟩ := R.bind_ok hf
    refine ⟨Γ, S, ρ, τ, va, S1, hS, hE, h1, fun ρ1 H1 x1 hS1 => ?_⟩
    split at hf
    · rename_i e
      rw [if_pos e]
      exact ⟨Γ, S1, ρ1, τ, v, S', hS1, hE.ext x1, hf, fun ρ2 H2 x2 hS2 => hc ρ2 H2 (x1.trans x2) hS2⟩
    · rename_i e
      rw [if_neg e]
      cases hf
      exact hc ρ1 H1 x1 hS1
theorem lw_or {rest : List Expr} (ha : PT X a (LT X.K ta)) (hb : PW X (.BoolOp .Or (b :: rest) pos) (LT X.K tb)) : PW X (.BoolOp .Or (a :: b :: rest) pos) (LT X.K (sOr ta tb)) :=
  (pw_or ha hb).weak fun σ H Q ⟨Γ, S, ρ, τ, v, S', hS, hE, hf, hc⟩ => by
    obtain ⟨va, S1, h1, hf⟩ := R.bind_ok hf
    refine ⟨Γ, S, ρ, τ, va, S1, hS, hE, h1, fun ρ1 H1 x1 hS1 => ?_⟩
    split at hf
    · rename_i e
      rw [if_pos e]
      cases hf
      exact hc ρ1 H1 x1 hS1
    · rename_i e
      rw [if_neg e]
      exact ⟨Γ, S1, ρ1, τ, v, S', hS1, hE.ext x1, hf, fun ρ2 H2 x2 hS2 => hc ρ2 H2 (x1.trans x2) hS2⟩
/-! ### and, or, not, if as values -/
theorem val_of {K : PySem.W.Frag} {fa : ST} (h : LE K (sVal fa) σ H Q) : LT K fa σ H fun b H1 => Q (.bl b) H1 := by
  obtain ⟨Γ, S, ρ, τ, v, S', hS, hE, hf, hc⟩ := h
  obtain ⟨va, S1, h1, hf⟩ := R.bind_ok hf
  cases hf
  exact ⟨Γ, S, ρ, τ, _, _, hS, hE, h1, fun ρ1 H1 x1 hS1 => hc ρ1 H1 _ x1 hS1 (show Rp _ _ _ _ _ from .bl _)⟩
def sAndV (a b : SE) : SE := fun Γ S => (a Γ S).bind fun x S1 => match boolOf x with
  | some true => b Γ S1
  | some false => .ok (.d (.bool false)) S1
  | none => .bad
def sOrV (a b : SE) : SE := fun Γ S => (a Γ S).bind fun x S1 => match boolOf x with
  | some true => .ok (.d (.bool true)) S1
  | some false => b Γ S1
  | none => .bad
def sNotV (a : SE) : SE := fun Γ S => (a Γ S).bind fun x S1 => match boolOf x with
  | some k => .ok (.d (.bool (!k))) S1
  | none => .bad
theorem boolOf_rp {K : PySem.W.Frag} {ρ τ : List Addr} {x : V} {v : Vl} {k : Bool} (h : Vr K H ρ τ x v) (e : boolOf v = some k) : x = .bl k := by
  unfold boolOf at e
  split at e
  · cases e
    cases (show Rp _ _ _ _ _ from h)
    rfl
  · cases e
theorem le_oneV {op : BoolOp} (h : PE X a (LE X.K fa)) : PE X (.BoolOp op [a] pos) (LE X.K fa) := pe_one h
theorem le_andV {rest : List Expr} (ha : PE X a (LE X.K fa)) (hb : PE X (.BoolOp .And (b :: rest) pos) (LE X.K fb)) : PE X (.BoolOp .And (a :: b :: rest) pos) (LE X.K (sAndV fa fb)) :=
  (pe_and ha hb).weak fun σ H Q ⟨Γ, S, ρ, τ, v, S', hS, hE, hf, hc⟩ => by
    obtain ⟨va, S1, h1, hf⟩ := R.bind_ok hf
    refine ⟨Γ, S, ρ, τ, va, S1, hS, hE, h1, fun ρ1 H1 x x1 hS1 q1 => ?_⟩
    split at hf
    · rename_i e
      refine ⟨true, boolOf_rp q1 e, ?_⟩
      rw [if_pos rfl]
      exact ⟨Γ, S1, ρ1, τ, v, S', hS1, hE.ext x1, hf, fun ρ2 H2 y x2 hS2 => hc ρ2 H2 y (x1.trans x2) hS2⟩
    · rename_i e
      cases hf
      refine ⟨false, boolOf_rp q1 e, ?_⟩
      rw [if_neg Bool.false_ne_true]
      exact hc ρ1 H1 _ x1 hS1 (show Rp _ _ _ _ _ from .bl _)
    · cases hf
theorem le_orV {rest : List Expr} (ha : PE X a (LE X.K fa)) (hb : PE X (.BoolOp .Or (b :: rest) pos) (LE X.K fb)) : PE X (.BoolOp .Or (a :: b :: rest) pos) (LE X.K (sOrV fa fb)) :=
  (pe_or ha hb).weak fun σ H Q ⟨Γ, S, ρ, τ, v, S', hS, hE, hf, hc⟩ => by
    obtain ⟨va, S1, h1, hf⟩ := R.bind_ok hf
    refine ⟨Γ, S, ρ, τ, va, S1, hS, hE, h1, fun ρ1 H1 x x1 hS1 q1 => ?_⟩
    split at hf
    · rename_i e
      cases hf
      refine ⟨true, boolOf_rp q1 e, ?_⟩
      rw [if_pos rfl]
      exact hc ρ1 H1 _ x1 hS1 (show Rp _ _ _ _ _ from .bl _)
    · rename_i e
      refine ⟨false, boolOf_rp q1 e, ?_⟩
      rw [if_neg Bool.false_ne_true]
      exact ⟨Γ, S1, ρ1, τ, v, S', hS1, hE.ext x1, hf, fun ρ2 H2 y x2 hS2 => hc ρ2 H2 y (x1.trans x2) hS2⟩
    · cases hf
theorem le_notV (ha : PE X a (LE X.K fa)) : PE X (.UnaryOp .Not a pos) (LE X.K (sNotV fa)) :=
  (pe_not ha).weak fun σ H Q ⟨Γ, S, ρ, τ, v, S', hS, hE, hf, hc⟩ => by
    obtain ⟨va, S1, h1, hf⟩ := R.bind_ok hf
    refine ⟨Γ, S, ρ, τ, va, S1, hS, hE, h1, fun ρ1 H1 x x1 hS1 q1 => ?_⟩
    split at hf
    · rename_i k e
      cases hf
      exact ⟨k, boolOf_rp q1 e, hc ρ1 H1 _ x1 hS1 (show Rp _ _ _ _ _ from .bl _)⟩
    · cases hf
theorem le_ifExp (hc : PT X c (LT X.K ta)) (ha : PE X a (LE X.K fa)) (hb : PE X b (LE X.K fb)) : PE X (.IfExp c a b pos) (LE X.K (sIf ta fa fb)) :=
  (pe_ifExp hc ha hb).weak fun σ H Q ⟨Γ, S, ρ, τ, v, S', hS, hE, hf, hc⟩ => by
    obtain ⟨va, S1, h1, hf⟩ := R.bind_ok hf
    refine ⟨Γ, S, ρ, τ, va, S1, hS, hE, h1, fun ρ1 H1 x1 hS1 => ?_⟩
    split at hf
    · rename_i e
      rw [if_pos e]
      exact ⟨Γ, S1, ρ1, τ, v, S', hS1, hE.ext x1, hf, fun ρ2 H2 y x2 hS2 => hc ρ2 H2 y (x1.trans x2) hS2⟩
    · rename_i e
      rw [if_neg e]
      exact ⟨Γ, S1, ρ1, τ, v, S', hS1, hE.ext x1, hf, fun ρ2 H2 y x2 hS2 => hc ρ2 H2 y (x1.trans x2) hS2⟩

/-! ### slices -/
def LO (K : PySem.W.Frag) (f : Option SE) : TO := fun σ H Q => ∃ Γ S ρ τ v S', StR K ρ τ S H ∧ EnR K H ρ τ σ Γ ∧ sPart f Γ S = .ok v S' ∧ ∀ ρ' H', Ext ρ τ H ρ' H' → StR K ρ' τ S' H' → Q v H'
theorem lo_none : PO X none (LO X.K none) := ⟨fun pins s σ H Q I ⟨Γ, S, ρ, τ, v, S', hS, hE, hf, hc⟩ => by
  cases hf
  exact po_none.run pins s σ H Q I (hc ρ H (Ext.refl hS) hS)⟩
theorem intOf_rp {K : PySem.W.Frag} {ρ τ : List Addr} {x : V} {v : Vl} {k : Int} (h : Vr K H ρ τ x v) (e : intOf v = some k) : x = .int k := by
  unfold intOf at e
  split at e
  · cases e
    cases (show Rp _ _ _ _ _ from h)
    rfl
  · cases e
theorem lo_some (ha : PE X a (LE X.K fa)) : PO X (some a) (LO X.K (some fa)) := ⟨fun pins s σ H Q I ⟨Γ, S, ρ, τ, v, S', hS, hE, hf, hc⟩ => by
  obtain ⟨va, S1, h1, hf⟩ := R.bind_ok hf
  refine (po_some ha).run pins s σ H Q I ⟨Γ, S, ρ, τ, va, S1, hS, hE, h1, fun ρ1 H1 x x1 hS1 q1 => ?_⟩
  split at hf
  · rename_i k e
    cases hf
    exact ⟨k, intOf_rp q1 e, hc ρ1 H1 x1 hS1⟩
  · cases hf⟩
theorem le_slice {lo hi : Option Expr} {fl fh : Option SE} {p2 : Pos} (ha : PE X a (LE X.K fa)) (hl : PO X lo (LO X.K fl)) (hh : PO X hi (LO X.K fh)) : PE X (.Subscript a (.Slice lo hi none p2) pos) (LE X.K (sSl fa fl fh)) :=
  (pe_slice sld ha hl hh).weak fun σ H Q ⟨Γ, S, ρ, τ, v, S', hS, hE, hf, hc⟩ => by
    obtain ⟨va, S1, h1, hf⟩ := R.bind_ok hf
    obtain ⟨l, S2, h2, hf⟩ := R.bind_ok hf
    obtain ⟨h, S3, h3, hf⟩ := R.bind_ok hf
    refine ⟨Γ, S, ρ, τ, va, S1, hS, hE, h1, fun ρ1 H1 x x1 hS1 q1 => ?_⟩
    refine ⟨Γ, S1, ρ1, τ, l, S2, hS1, hE.ext x1, h2, fun ρ2 H2 x2 hS2 => ?_⟩
    refine ⟨Γ, S2, ρ2, τ, h, S3, hS2, (hE.ext x1).ext x2, h3, fun ρ3 H3 x3 hS3 => ?_⟩
    exact ⟨ρ3, τ, S3, va, v, S', hS3, (q1.ext x2).ext x3, hf, fun ρ4 H4 z x4 hS4 q4 => hc ρ4 H4 z (((x1.trans x2).trans x3).trans x4) hS4 q4⟩
end
end L2.Pv

set_option Elab.async false
set_option linter.all false
set_option maxRecDepth 100000
namespace L2.Pv
open PySem PySem.Spec PyProof.Rows L2

/-! ### what is walked -/
inductive Src where
  | its (ds : List PyData)
  | ob (n : Nat)
abbrev SI := Env → Sto → R Src
/-- an iterator yields the items, whatever grows meanwhile -/
def ItR (K : PySem.W.Frag) (J : It) (m : List Addr) (H : Hp) (items : List PyData) : Prop :=
  ∀ m1 H1, Cov m H m1 H1 → (∀ a ∈ m1, H1 a ≠ none) → (∀ i d, items[i]? = some d → J.go i H1 ∧ ∀ x H2, J.yld i H1 x H2 → (H2 = H1 ∨ ∃ T o, H1 T = none ∧ H2 = upd H1 T o) ∧ Rp K H2 m1 x d) ∧ ∀ i, items.length ≤ i → J.stop i H1
/-- the list object of the store, as it stands at each turn -/
def SrcR (K : PySem.W.Frag) (J : It) (ρ τ : List Addr) (H : Hp) : Src → Prop
  | .its ds => ItR K J (ρ ++ τ) H ds
  | .ob n => ∃ a, ρ[n]? = some a ∧ J = Itl K a
def LI (K : PySem.W.Frag) (f : SI) : TI := fun σ H Q => ∃ Γ S ρ τ v S', StR K ρ τ S H ∧ EnR K H ρ τ σ Γ ∧ f Γ S = .ok v S' ∧
  ∀ ρ' H' J, Ext ρ τ H ρ' H' → StR K ρ' τ S' H' → SrcR K J ρ' τ H' v → Q J H'
def strIts (z : Str) : List PyData := z.cps.toList.map fun c => .str ⟨#[c]⟩
def srcOf (S : Sto) : Vl → Option Src
  | .d (.list ds) => some (.its ds)
  | .d (.tuple ds) => some (.its ds)
  | .d (.str z) => some (.its (strIts z))
  | .k ds => some (.its ds)
  | .o n => (lstOf S n).map fun _ => .ob n
  | _ => none
def sIter (a : SE) : SI := fun Γ S => (a Γ S).bind fun v S1 => match srcOf S1 v with
  | some s => .ok s S1
  | none => .bad
def rngIts (lo : Int) (n : Nat) : List PyData := (List.range n).map fun (i : Nat) => .int (lo + (i : Int))
def sRng1 (a : SE) : SI := fun Γ S => (a Γ S).bind fun v S1 => match intOf v with
  | some j => if -(2 ^ 62) ≤ j ∧ j < 2 ^ 62 then .ok (.its (rngIts 0 j.toNat)) S1 else .bad
  | none => .bad
def sRng2 (a b : SE) : SI := fun Γ S => (a Γ S).bind fun v S1 => (b Γ S1).bind fun w S2 => match intOf v with
  | some i => match intOf w with
    | some j => if (-(2 ^ 62) ≤ i ∧ i < 2 ^ 62) ∧ (-(2 ^ 62) ≤ j ∧ j < 2 ^ 62) then .ok (.its (rngIts i (j - i).toNat)) S2 else .bad
    | none => .bad
  | none => .bad
def enumIts (ds : List PyData) : List PyData := ds.zipIdx.map fun p => .tuple [.int (p.2 : Nat), p.1]
def sEnum (a : SE) : SI := fun Γ S => (a Γ S).bind fun v S1 => match v with
  | .d (.list ds) => .ok (.its (enumIts ds)) S1
  | _ => .bad
def zipIts (as bs : List PyData) : List PyData := (as.zip bs).map fun p => .tuple [p.1, p.2]
def sZip (a b : SE) : SI := fun Γ S => (a Γ S).bind fun v S1 => (b Γ S1).bind fun w S2 => match v with
  | .d (.list as) => match w with
    | .d (.list bs) => .ok (.its (zipIts as bs)) S2
    | _ => .bad
  | .d (.tuple as) => match w with
    | .d (.tuple bs) => .ok (.its (zipIts as bs)) S2
    | _ => .bad
  | _ => .bad
def sRev (a : SE) : SI := fun Γ S => (a Γ S).bind fun v S1 => match v with
  | .d (.list ds) => .ok (.its ds.reverse) S1
  | .d (.tuple ds) => .ok (.its ds.reverse) S1
  | _ => .bad

section
variable {X : Cx} {a b : Expr} {fa fb : SE} {tg : Expr} {pos : Pos} {σ : L2.St} {H : Hp} {K : PySem.W.Frag} {m : List Addr}
theorem itr_l {c : Addr} {xs : List V} {ds : List PyData} (h : LstAt K H m c xs) (r : RpL K H m xs ds) : ItR K (Itl K c) m H ds := fun m1 H1 cv _ => by
  have h1 := h.cov cv
  have r1 := RpL.cov cv _ _ r
  refine ⟨fun i d e => ?_, fun i hi => ⟨xs, h1.sq, by rw [r1.length]; exact hi⟩⟩
  obtain ⟨x, e1, e2⟩ := r1.get e
  refine ⟨⟨xs, x, h1.sq, e1⟩, fun y H2 hy => ?_⟩
  obtain ⟨rfl, f⟩ := hy
  have := f xs h1.sq
  rw [e1] at this
  cases this
  exact ⟨.inl rfl, e2⟩
theorem itr_t {c : Addr} {xs : List V} {ds : List PyData} (h : TupAt K H m c xs) (r : RpL K H m xs ds) : ItR K (Itt K c) m H ds := fun m1 H1 cv _ => by
  have h1 := h.cov cv
  have r1 := RpL.cov cv _ _ r
  refine ⟨fun i d e => ?_, fun i hi => ⟨xs, h1.sq, by rw [r1.length]; exact hi⟩⟩
  obtain ⟨x, e1, e2⟩ := r1.get e
  refine ⟨⟨xs, x, h1.sq, e1⟩, fun y H2 hy => ?_⟩
  obtain ⟨rfl, f⟩ := hy
  have := f xs h1.sq
  rw [e1] at this
  cases this
  exact ⟨.inl rfl, e2⟩
theorem itr_s {z : Str} (ok : PySem.PyData.strOk z = true) : ItR K (Its z) m H (strIts z) := fun m1 H1 cv _ => by
  refine ⟨fun i d e => ?_, fun i hi => ?_⟩
  · unfold strIts at e
    rw [List.getElem?_map] at e
    obtain ⟨c, e1, e2⟩ := Option.map_eq_some_iff.mp e
    subst e2
    have hi : i < z.cps.size := by
      have := (List.getElem?_eq_some_iff.mp e1).1
      simpa using this
    refine ⟨hi, fun y H2 hy => ?_⟩
    obtain ⟨rfl, c', e3, rfl⟩ := hy
    have e4 : c' = c := by
      rw [Array.getElem?_toList] at e1
      rw [e1] at e3
      exact (Option.some.inj e3).symm
    subst e4
    exact ⟨.inl rfl, .str _ (strOk_sub ok fun k hk => by
      have : k = c' := by simpa using hk
      subst this
      exact List.mem_of_getElem? e1)⟩
  · show z.cps.size ≤ i
    simpa [strIts] using hi
theorem itr_r {lo : Int} {n : Nat} : ItR K (Itr lo n) m H (rngIts lo n) := fun m1 H1 cv _ => by
  refine ⟨fun i d e => ?_, fun i hi => ?_⟩
  · unfold rngIts at e
    rw [List.getElem?_map] at e
    obtain ⟨c, e1, e2⟩ := Option.map_eq_some_iff.mp e
    subst e2
    obtain ⟨h1, h2⟩ := List.getElem?_eq_some_iff.mp e1
    rw [List.getElem_range] at h2
    subst h2
    have h3 : i < n := by simpa using h1
    refine ⟨h3, fun y H2 hy => ?_⟩
    obtain ⟨rfl, rfl⟩ := hy
    exact ⟨.inl rfl, .int _⟩
  · show n ≤ i
    simpa [rngIts] using hi
theorem new_tup {m1 : List Addr} {H1 : Hp} {T : Addr} {xs : List V} {ds : List PyData} (ht : ∀ a ∈ m1, H1 a ≠ none) (hT : H1 T = none) (r : RpL K H1 m1 xs ds) : Rp K (upd H1 T (.tup xs)) m1 (.ref T) (.tuple ds) :=
  .tup (.inl ⟨.inl upd_same, fun z => ht T z hT⟩) (RpL.cov ⟨fun b u hb _ => by rw [upd_ne (ne_of_none hb hT)]; exact hb, fun _ _ _ n => n⟩ _ _ r)
theorem itr_e {c : Addr} {xs : List V} {ds : List PyData} (h : LstAt K H m c xs) (r : RpL K H m xs ds) : ItR K (Ite K c) m H (enumIts ds) := fun m1 H1 cv ht => by
  have h1 := h.cov cv
  have r1 := RpL.cov cv _ _ r
  refine ⟨fun i d e => ?_, fun i hi => ⟨xs, h1.sq, by rw [r1.length]; simpa [enumIts] using hi⟩⟩
  unfold enumIts at e
  rw [List.getElem?_map, List.getElem?_zipIdx] at e
  obtain ⟨p, e1, e2⟩ := Option.map_eq_some_iff.mp e
  obtain ⟨d0, e3, e4⟩ := Option.map_eq_some_iff.mp e1
  subst e2
  subst e4
  obtain ⟨x, e5, e6⟩ := r1.get e3
  refine ⟨⟨xs, x, h1.sq, e5⟩, fun y H2 hy => ?_⟩
  obtain ⟨T, x', rfl, hT, rfl, f⟩ := hy
  have := f xs h1.sq
  rw [e5] at this
  cases this
  refine ⟨.inr ⟨T, _, hT, rfl⟩, ?_⟩
  have q : RpL K H1 m1 [.int (i : Nat), x] [.int (i : Nat), d0] := .cons (.int _) (.cons e6 .nil)
  have := new_tup ht hT q
  simpa using this
theorem zip_get {as bs : List PyData} {i : Nat} {d : PyData} (e : (zipIts as bs)[i]? = some d) : ∃ x y, as[i]? = some x ∧ bs[i]? = some y ∧ d = .tuple [x, y] := by
  unfold zipIts at e
  rw [List.getElem?_map] at e
  obtain ⟨p, e1, e2⟩ := Option.map_eq_some_iff.mp e
  obtain ⟨h1, h2⟩ := List.getElem?_eq_some_iff.mp e1
  rw [List.getElem_zip] at h2
  rw [List.length_zip] at h1
  refine ⟨_, _, List.getElem?_eq_getElem (by omega), List.getElem?_eq_getElem (by omega), ?_⟩
  rw [← e2, ← h2]
theorem itr_z {c e : Addr} {xs ys : List V} {as bs : List PyData} (h : LstAt K H m c xs) (h' : LstAt K H m e ys) (r : RpL K H m xs as) (r' : RpL K H m ys bs) : ItR K (Itz K c e) m H (zipIts as bs) := fun m1 H1 cv ht => by
  have h1 := h.cov cv
  have h2 := h'.cov cv
  have r1 := RpL.cov cv _ _ r
  have r2 := RpL.cov cv _ _ r'
  refine ⟨fun i d e => ?_, fun i hi => ⟨xs, ys, h1.sq, h2.sq, ?_⟩⟩
  · obtain ⟨x, y, e1, e2, rfl⟩ := zip_get e
    obtain ⟨vx, e3, e4⟩ := r1.get e1
    obtain ⟨vy, e5, e6⟩ := r2.get e2
    refine ⟨⟨xs, ys, vx, vy, h1.sq, h2.sq, e3, e5⟩, fun z H2 hy => ?_⟩
    obtain ⟨T, x', y', rfl, hT, rfl, f, f'⟩ := hy
    have q1 := f xs h1.sq
    have q2 := f' ys h2.sq
    rw [e3] at q1
    rw [e5] at q2
    cases q1
    cases q2
    exact ⟨.inr ⟨T, _, hT, rfl⟩, new_tup ht hT (.cons e4 (.cons e6 .nil))⟩
  · rw [r1.length, r2.length]
    have : min as.length bs.length ≤ i := by simpa [zipIts] using hi
    omega
theorem itr_zt {c e : Addr} {xs ys : List V} {as bs : List PyData} (h : TupAt K H m c xs) (h' : TupAt K H m e ys) (r : RpL K H m xs as) (r' : RpL K H m ys bs) : ItR K (RZ.ItzT K c e) m H (zipIts as bs) := fun m1 H1 cv ht => by
  have h1 := h.cov cv
  have h2 := h'.cov cv
  have r1 := RpL.cov cv _ _ r
  have r2 := RpL.cov cv _ _ r'
  refine ⟨fun i d e => ?_, fun i hi => ⟨xs, ys, h1.sq, h2.sq, ?_⟩⟩
  · obtain ⟨x, y, e1, e2, rfl⟩ := zip_get e
    obtain ⟨vx, e3, e4⟩ := r1.get e1
    obtain ⟨vy, e5, e6⟩ := r2.get e2
    refine ⟨⟨xs, ys, vx, vy, h1.sq, h2.sq, e3, e5⟩, fun z H2 hy => ?_⟩
    obtain ⟨T, x', y', rfl, hT, rfl, f, f'⟩ := hy
    have q1 := f xs h1.sq
    have q2 := f' ys h2.sq
    rw [e3] at q1
    rw [e5] at q2
    cases q1
    cases q2
    exact ⟨.inr ⟨T, _, hT, rfl⟩, new_tup ht hT (.cons e4 (.cons e6 .nil))⟩
  · rw [r1.length, r2.length]
    have : min as.length bs.length ≤ i := by simpa [zipIts] using hi
    omega
theorem itr_v {c : Addr} {xs : List V} {ds : List PyData} (h : LstAt K H m c xs) (r : RpL K H m xs ds) : ItR K (Itv K c xs.length) m H ds.reverse := fun m1 H1 cv _ => by
  have h1 := h.cov cv
  have r1 := RpL.cov cv _ _ r
  have hl := r1.length
  refine ⟨fun i d e => ?_, fun i hi => ?_⟩
  · have hi : i < ds.length := by
      have := (List.getElem?_eq_some_iff.mp e).1
      simpa using this
    rw [List.getElem?_reverse hi] at e
    obtain ⟨x, e1, e2⟩ := r1.get e
    rw [← hl] at e1
    refine ⟨⟨by omega, xs, x, h1.sq, e1⟩, fun y H2 hy => ?_⟩
    obtain ⟨rfl, f⟩ := hy
    have := f xs h1.sq
    rw [e1] at this
    cases this
    exact ⟨.inl rfl, e2⟩
  · show xs.length ≤ i
    rw [hl]
    simpa using hi
theorem itr_vt {c : Addr} {xs : List V} {ds : List PyData} (h : TupAt K H m c xs) (r : RpL K H m xs ds) : ItR K (RT.ItvT K c xs.length) m H ds.reverse := fun m1 H1 cv _ => by
  have h1 := h.cov cv
  have r1 := RpL.cov cv _ _ r
  have hl := r1.length
  refine ⟨fun i d e => ?_, fun i hi => ?_⟩
  · have hi : i < ds.length := by
      have := (List.getElem?_eq_some_iff.mp e).1
      simpa using this
    rw [List.getElem?_reverse hi] at e
    obtain ⟨x, e1, e2⟩ := r1.get e
    rw [← hl] at e1
    refine ⟨⟨by omega, xs, x, h1.sq, e1⟩, fun y H2 hy => ?_⟩
    obtain ⟨rfl, f⟩ := hy
    have := f xs h1.sq
    rw [e1] at this
    cases this
    exact ⟨.inl rfl, e2⟩
  · show xs.length ≤ i
    rw [hl]
    simpa using hi

theorem li_iter (ha : PE X a (LE X.K fa)) : PI X tg a (LI X.K (sIter fa)) := ⟨fun pins s σ H Q I ⟨Γ, S, ρ, τ, v, S', hS, hE, hf, hc⟩ => by
  obtain ⟨va, S1, h1, hf⟩ := R.bind_ok hf
  split at hf
  · rename_i sr e
    cases hf
    unfold srcOf at e
    split at e
    · rename_i ds
      cases e
      refine (pi_list ha).run pins s σ H Q I ⟨Γ, S, ρ, τ, _, _, hS, hE, h1, fun ρ1 H1 x x1 hS1 q1 => ?_⟩
      cases (show Rp _ _ _ _ _ from q1) with
      | lst ta qa => exact ⟨_, rfl, ⟨_, ta.sq⟩, hc ρ1 H1 _ x1 hS1 (itr_l ta.at qa)⟩
    · rename_i ds
      cases e
      refine (pi_tup ha).run pins s σ H Q I ⟨Γ, S, ρ, τ, _, _, hS, hE, h1, fun ρ1 H1 x x1 hS1 q1 => ?_⟩
      cases (show Rp _ _ _ _ _ from q1) with
      | tup ta qa => exact ⟨_, rfl, ⟨_, ta.sq⟩, hc ρ1 H1 _ x1 hS1 (itr_t ta qa)⟩
    · rename_i z
      cases e
      refine (pi_str ha).run pins s σ H Q I ⟨Γ, S, ρ, τ, _, _, hS, hE, h1, fun ρ1 H1 x x1 hS1 q1 => ?_⟩
      cases (show Rp _ _ _ _ _ from q1) with
      | str _ ok => exact ⟨_, rfl, hc ρ1 H1 _ x1 hS1 (itr_s ok)⟩
    · rename_i ds
      cases e
      refine (pi_list ha).run pins s σ H Q I ⟨Γ, S, ρ, τ, _, _, hS, hE, h1, fun ρ1 H1 x x1 hS1 q1 => ?_⟩
      obtain ⟨c, xs, rfl, ta, qa⟩ := q1
      exact ⟨_, rfl, ⟨_, ta.sq⟩, hc ρ1 H1 _ x1 hS1 (itr_l ta qa)⟩
    · rename_i n
      obtain ⟨ds, e1, rfl⟩ := Option.map_eq_some_iff.mp e
      refine (pi_list ha).run pins s σ H Q I ⟨Γ, S, ρ, τ, _, _, hS, hE, h1, fun ρ1 H1 x x1 hS1 q1 => ?_⟩
      obtain ⟨c, hc1, rfl⟩ := q1
      obtain ⟨xs, h3, h4⟩ := hS1.lstAt hc1 e1
      exact ⟨_, rfl, ⟨_, .of h3⟩, hc ρ1 H1 _ x1 hS1 ⟨c, hc1, rfl⟩⟩
    · cases e
  · cases hf⟩
theorem li_rng1 {p : Pos} (hg : Gl X "range") (hm : X.mg "range" = none) (ha : PE X a (LE X.K fa)) (hs : starEach [a] X.env = [(false, eval a X.env)]) : PI X tg (.Call (.Name "range" p) [a] [] pos) (LI X.K (sRng1 fa)) := ⟨fun pins s σ H Q I ⟨Γ, S, ρ, τ, v, S', hS, hE, hf, hc⟩ => by
  obtain ⟨va, S1, h1, hf⟩ := R.bind_ok hf
  split at hf
  · rename_i j e
    split at hf
    · rename_i hz
      cases hf
      refine (pi_range1 hg hm (pa_cons ha pa_nil hs) hs).run pins s σ H Q I ⟨Γ, S, ρ, τ, _, _, hS, hE, h1, fun ρ1 H1 x x1 hS1 q1 => ?_⟩
      cases intOf_rp q1 e
      exact ⟨j, rfl, hz.1, hz.2, hc ρ1 H1 _ x1 hS1 itr_r⟩
    · cases hf
  · cases hf⟩
theorem li_rng2 {p : Pos} (hg : Gl X "range") (hm : X.mg "range" = none) (ha : PE X a (LE X.K fa)) (hb : PE X b (LE X.K fb)) (hs : starEach [a, b] X.env = [(false, eval a X.env), (false, eval b X.env)]) (hs2 : starEach [b] X.env = [(false, eval b X.env)]) :
    PI X tg (.Call (.Name "range" p) [a, b] [] pos) (LI X.K (sRng2 fa fb)) := ⟨fun pins s σ H Q I ⟨Γ, S, ρ, τ, v, S', hS, hE, hf, hc⟩ => by
  obtain ⟨va, S1, h1, hf⟩ := R.bind_ok hf
  obtain ⟨vb, S2, h2, hf⟩ := R.bind_ok hf
  split at hf
  · rename_i i e
    split at hf
    · rename_i j e'
      split at hf
      · rename_i hz
        cases hf
        refine (pi_range2 hg hm (pa_cons ha (pa_cons hb pa_nil hs2) (by rw [hs, hs2])) hs hs2).run pins s σ H Q I ⟨Γ, S, ρ, τ, _, _, hS, hE, h1, fun ρ1 H1 x x1 hS1 q1 => ?_⟩
        refine ⟨Γ, S1, ρ1, τ, _, _, hS1, hE.ext x1, h2, fun ρ2 H2 y x2 hS2 q2 => ?_⟩
        cases intOf_rp q1 e
        cases intOf_rp q2 e'
        exact ⟨i, j, rfl, ⟨hz.1.1, hz.1.2, hz.2.1, hz.2.2⟩, hc ρ2 H2 _ (x1.trans x2) hS2 itr_r⟩
      · cases hf
    · cases hf
  · cases hf⟩
theorem li_enum {p tpos : Pos} {elts : List Expr} {kk : Nat} (hg : Gl X "enumerate") (hm : X.mg "enumerate" = none) (ha : PE X a (LE X.K fa)) (hs : starEach [a] X.env = [(false, eval a X.env)]) :
    PI X (.Tuple elts kk tpos) (.Call (.Name "enumerate" p) [a] [] pos) (LI X.K (sEnum fa)) := ⟨fun pins s σ H Q I ⟨Γ, S, ρ, τ, v, S', hS, hE, hf, hc⟩ => by
  obtain ⟨va, S1, h1, hf⟩ := R.bind_ok hf
  split at hf
  · cases hf
    refine (pi_enum hg hm (pa_cons ha pa_nil hs) hs).run pins s σ H Q I ⟨Γ, S, ρ, τ, _, _, hS, hE, h1, fun ρ1 H1 x x1 hS1 q1 => ?_⟩
    cases (show Rp _ _ _ _ _ from q1) with
    | lst ta qa => exact ⟨_, _, rfl, ta.sq, hc ρ1 H1 _ x1 hS1 (itr_e ta.at qa)⟩
  · cases hf⟩
theorem li_zip {p tpos : Pos} {elts : List Expr} {kk : Nat} (hg : Gl X "zip") (hm : X.mg "zip" = none) (ha : PE X a (LE X.K fa)) (hb : PE X b (LE X.K fb)) (hs : starEach [a, b] X.env = (false, eval a X.env) :: starEach [b] X.env) (hs2 : starEach [b] X.env = (false, eval b X.env) :: starEach [] X.env)
    (hpl : (backTo pos (starEach [b] X.env)).any (·.1) = false) : PI X (.Tuple elts kk tpos) (.Call (.Name "zip" p) [a, b] [] pos) (LI X.K (sZip fa fb)) := ⟨fun pins s σ H Q I ⟨Γ, S, ρ, τ, v, S', hS, hE, hf, hc⟩ => by
  obtain ⟨va, S1, h1, hf⟩ := R.bind_ok hf
  obtain ⟨vb, S2, h2, hf⟩ := R.bind_ok hf
  refine (RZ.pi_zipA hg hm (pa_cons ha (pa_cons hb pa_nil hs2) hs) hs hpl).run pins s σ H Q I ⟨Γ, S, ρ, τ, va, S1, hS, hE, h1, fun ρ1 H1 x x1 hS1 q1 => ?_⟩
  refine ⟨Γ, S1, ρ1, τ, vb, S2, hS1, hE.ext x1, h2, fun ρ2 H2 y x2 hS2 q2 => ?_⟩
  have q1 := q1.ext x2
  split at hf
  · split at hf
    · cases hf
      cases (show Rp _ _ _ _ _ from q1) with
      | lst ta qa =>
        cases (show Rp _ _ _ _ _ from q2) with
        | lst tb qb => exact ⟨_, _, _, _, rfl, .inl ⟨ta.sq, tb.sq, hc ρ2 H2 _ (x1.trans x2) hS2 (itr_z ta.at tb.at qa qb)⟩⟩
    · cases hf
  · split at hf
    · cases hf
      cases (show Rp _ _ _ _ _ from q1) with
      | tup ta qa =>
        cases (show Rp _ _ _ _ _ from q2) with
        | tup tb qb => exact ⟨_, _, _, _, rfl, .inr ⟨ta.sq, tb.sq, hc ρ2 H2 _ (x1.trans x2) hS2 (itr_zt ta tb qa qb)⟩⟩
    · cases hf
  · cases hf⟩
theorem li_rev {p : Pos} (hg : Gl X "reversed") (hm : X.mg "reversed" = none) (ha : PE X a (LE X.K fa)) (hs : starEach [a] X.env = (false, eval a X.env) :: starEach [] X.env) : PI X tg (.Call (.Name "reversed" p) [a] [] pos) (LI X.K (sRev fa)) := ⟨fun pins s σ H Q I ⟨Γ, S, ρ, τ, v, S', hS, hE, hf, hc⟩ => by
  obtain ⟨va, S1, h1, hf⟩ := R.bind_ok hf
  refine (RT.pi_revA hg hm ha hs).run pins s σ H Q I ⟨Γ, S, ρ, τ, va, S1, hS, hE, h1, fun ρ1 H1 x x1 hS1 q1 => ?_⟩
  split at hf
  · cases hf
    cases (show Rp _ _ _ _ _ from q1) with
    | lst ta qa => exact ⟨_, _, rfl, .inl ⟨ta.sq, hc ρ1 H1 _ x1 hS1 (itr_v ta.at qa)⟩⟩
  · cases hf
    cases (show Rp _ _ _ _ _ from q1) with
    | tup ta qa => exact ⟨_, _, rfl, .inr ⟨ta.sq, hc ρ1 H1 _ x1 hS1 (itr_vt ta qa)⟩⟩
  · cases hf⟩

/-! ### targets that take data -/
abbrev Tg := PyData → Env → Option Env
def tNm (i : Nat) : Tg := fun d Γ => some (Γ.set i (some (.d d)))
def setAll : List Nat → List PyData → Env → Option Env
  | [], [], Γ => some Γ
  | i :: is, d :: ds, Γ => setAll is ds (Γ.set i (some (.d d)))
  | _, _, _ => none
def tTp (is : List Nat) : Tg := fun d Γ => match d with
  | .tuple ds => setAll is ds Γ
  | _ => none
/-- but for the places is the same -/
def WSame (is : List Nat) (σ σ' : L2.St) : Prop := σ'.length = σ.length ∧ ∀ j, j ∉ is → σ'[j]? = σ[j]?
def LG (K : PySem.W.Frag) (is : List Nat) (t : Tg) : TG := fun v σ H Q => ∃ Γ S ρ τ d Γ', StR K ρ τ S H ∧ EnR K H ρ τ σ Γ ∧ Rp K H (ρ ++ τ) v d ∧ t d Γ = some Γ' ∧ ∀ σ', EnR K H ρ τ σ' Γ' → WSame is σ σ' → Q σ' H
theorem WSame.set {σ : L2.St} {i : Nat} {x : Option V} : WSame [i] σ (σ.set i x) := ⟨List.length_set, fun j hj => by
  rw [List.getElem?_set_ne]
  exact fun e => hj (by rw [e]; exact List.mem_cons_self)⟩
theorem WSame.trans {σ σ1 σ2 : L2.St} {is js ks : List Nat} (a : WSame is σ σ1) (b : WSame js σ1 σ2) (h1 : ∀ i ∈ is, i ∈ ks) (h2 : ∀ i ∈ js, i ∈ ks) : WSame ks σ σ2 := ⟨b.1.trans a.1, fun j hj => (b.2 j fun z => hj (h2 j z)).trans (a.2 j fun z => hj (h1 j z))⟩
theorem _root_.L2.PG.weak {e : Expr} {t t' : TG} (h : PG X e t) (w : ∀ v σ H Q, t' v σ H Q → t v σ H Q) : PG X e t' := ⟨fun pins s σ H v u Q I r hq => h.run pins s σ H v u Q I r (w _ _ _ _ hq)⟩
theorem lg_name {i : Nat} {x : Str} (h : PG X (.Name x pos) (gName i)) : PG X (.Name x pos) (LG X.K [i] (tNm i)) := h.weak fun v σ H Q ⟨Γ, S, ρ, τ, d, Γ', hS, hE, hr, ht, hq⟩ => by
  cases ht
  exact hq _ (hE.set (v := .d d) hr) .set
inductive NmL (X : Cx) : List Expr → List Nat → Prop
  | nil : NmL X [] []
  | cons {e : Expr} {es : List Expr} {i : Nat} {is : List Nat} : PG X e (gName i) → (assignEach (e :: es) X.env).map (·.2) = assign e X.env :: (assignEach es X.env).map (·.2) → NmL X es is → NmL X (e :: es) (i :: is)
def LGs (K : PySem.W.Frag) (is : List Nat) : TGs := fun vs σ H Q => ∃ Γ S ρ τ ds Γ', StR K ρ τ S H ∧ EnR K H ρ τ σ Γ ∧ RpL K H (ρ ++ τ) vs ds ∧ setAll is ds Γ = some Γ' ∧ ∀ σ', EnR K H ρ τ σ' Γ' → WSame is σ σ' → Q σ' H
theorem _root_.L2.PGs.weak {e : List Expr} {t t' : TGs} (h : PGs X e t) (w : ∀ v σ H Q, t' v σ H Q → t v σ H Q) : PGs X e t' := ⟨fun pins s σ H v u Q I r hq => h.run pins s σ H v u Q I r (w _ _ _ _ hq)⟩
theorem lgs_of {es : List Expr} {is : List Nat} (h : NmL X es is) : PGs X es (LGs X.K is) := by
  induction h with
  | nil =>
    refine pgs_nil.weak fun vs σ H Q ⟨Γ, S, ρ, τ, ds, Γ', hS, hE, hr, ht, hq⟩ => ?_
    cases ds with
    | nil =>
      cases hr
      cases ht
      exact ⟨rfl, hq σ hE ⟨rfl, fun _ _ => rfl⟩⟩
    | cons d ds => cases ht
  | cons h1 hs h2 ih =>
    refine (pgs_cons h1 ih hs).weak fun vs σ H Q ⟨Γ, S, ρ, τ, ds, Γ', hS, hE, hr, ht, hq⟩ => ?_
    cases ds with
    | nil => cases ht
    | cons d ds =>
      cases hr with
      | cons r1 r2 => exact ⟨_, _, rfl, Γ.set _ (some (.d d)), S, ρ, τ, ds, Γ', hS, hE.set (v := .d d) r1, r2, ht, fun σ' e w => hq σ' e (WSame.set.trans w (fun i hi => by rw [List.mem_singleton.mp hi]; exact List.mem_cons_self) fun i hi => List.mem_cons_of_mem _ hi)⟩
theorem lg_tup {es : List Expr} {is : List Nat} {k : Nat} (hc : X.calm = true) (h : NmL X es is) (hn : (assignEach es X.env).length = es.length) (hst : (assignEach es X.env).findIdx? (·.1) = none) (hl : is.length = es.length) : PG X (.Tuple es k pos) (LG X.K is (tTp is)) :=
  (pg_tup hc (lgs_of h) hn hst).weak fun v σ H Q ⟨Γ, S, ρ, τ, d, Γ', hS, hE, hr, ht, hq⟩ => by
    unfold tTp at ht
    split at ht
    · rename_i ds
      cases hr with
      | tup ta qa =>
        refine ⟨_, _, rfl, ta.sq, ?_, Γ, S, ρ, τ, ds, Γ', hS, hE, qa, ht, hq⟩
        rw [qa.length]
        have key : ∀ (is : List Nat) (ds : List PyData) (Γ Γ' : Env), setAll is ds Γ = some Γ' → ds.length = is.length := by
          intro is
          induction is with
          | nil =>
            intro ds Γ Γ' h
            cases ds with
            | nil => rfl
            | cons d ds => cases h
          | cons i is ih =>
            intro ds Γ Γ' h
            cases ds with
            | nil => cases h
            | cons d ds => show _ + 1 = _ + 1; rw [ih ds _ _ h]
        rw [key _ _ _ _ ht, hl]
    · cases ht
end
end L2.Pv

set_option Elab.async false
set_option linter.all false
set_option maxRecDepth 100000
namespace L2.Pv
open PySem PySem.Spec PyProof.Rows L2

/-! ### the next item -/
def nxt (src : Src) (S : Sto) (i : Nat) : Option (Option PyData) := match src with
  | .its ds => some ds[i]?
  | .ob n => (lstOf S n).map (·[i]?)
def bigFuel : Nat := 1000000
def fuelOf : Src → Nat
  | .its ds => ds.length + 1
  | .ob _ => bigFuel
section
variable {K : PySem.W.Frag} {ρ ρ1 ρ2 τ τ1 τ2 : List Addr} {H H1 H2 : Hp} {S S2 : Sto} {J : It} {src : Src}
theorem src_go (h : SrcR K J ρ τ H src) (cv : Cov (ρ ++ τ) H (ρ2 ++ τ2) H2) (pre : ∃ new, ρ2 = ρ ++ new) (hS : StR K ρ2 τ2 S2 H2) :
    (∀ i d, nxt src S2 i = some (some d) → J.go i H2 ∧ ∀ x H3, J.yld i H2 x H3 → (H3 = H2 ∨ ∃ T o, H2 T = none ∧ H3 = upd H2 T o) ∧ Rp K H3 (ρ2 ++ τ2) x d) ∧ ∀ i, nxt src S2 i = some none → J.stop i H2 := by
  cases src with
  | its ds =>
    have ht : ∀ a ∈ ρ2 ++ τ2, H2 a ≠ none := fun a ha => by
      rcases List.mem_append.mp ha with ha | ha
      · exact hS.trk ha
      · exact hS.tk a ha
    obtain ⟨h1, h2⟩ := h _ _ cv ht
    exact ⟨fun i d e => h1 i d (Option.some.inj e), fun i e => h2 i (List.getElem?_eq_none_iff.mp (Option.some.inj e))⟩
  | ob n =>
    obtain ⟨a, ha, rfl⟩ := h
    obtain ⟨new, rfl⟩ := pre
    have ha2 : (ρ ++ new)[n]? = some a := by
      rw [List.getElem?_append_left (List.getElem?_eq_some_iff.mp ha).1]
      exact ha
    refine ⟨fun i d e => ?_, fun i e => ?_⟩
    · obtain ⟨ds, h1, h2⟩ := Option.map_eq_some_iff.mp (show (lstOf S2 n).map (·[i]?) = some (some d) from e)
      obtain ⟨xs, h3, h4⟩ := hS.lstAt ha2 h1
      obtain ⟨x, h5, h6⟩ := h4.get h2
      refine ⟨⟨xs, x, .of h3, h5⟩, fun y H3 hy => ?_⟩
      obtain ⟨rfl, f⟩ := hy
      have := f xs (.of h3)
      rw [h5] at this
      cases this
      exact ⟨.inl rfl, h6⟩
    · obtain ⟨ds, h1, h2⟩ := Option.map_eq_some_iff.mp (show (lstOf S2 n).map (·[i]?) = some none from e)
      obtain ⟨xs, h3, h4⟩ := hS.lstAt ha2 h1
      exact ⟨xs, .of h3, by rw [h4.length]; exact List.getElem?_eq_none_iff.mp h2⟩
/-- the same or one new object -/
theorem grown (hS : StR K ρ τ S H) (h : H1 = H ∨ ∃ T o, H T = none ∧ H1 = upd H T o) : StR K ρ τ S H1 ∧ Ext ρ τ H ρ H1 := by
  rcases h with rfl | ⟨T, o, hT, rfl⟩
  · exact ⟨hS, Ext.refl hS⟩
  · exact hS.fresh hT
theorem Ext.tau (x : Ext ρ τ H ρ1 H1) : Ext ρ τ1 H ρ1 H1 := ⟨x.pre, x.keep, x.trk⟩
theorem EnR.cov {σ : L2.St} {Γ : Env} (h : EnR K H ρ τ σ Γ) (cv : Cov (ρ ++ τ) H (ρ2 ++ τ2) H2) (pre : ∃ new, ρ2 = ρ ++ new) : EnR K H2 ρ2 τ2 σ Γ := pairedMono h fun o g _ q v e => by
  obtain ⟨z, h1, h2⟩ := q v e
  refine ⟨z, h1, ?_⟩
  cases v with
  | d d => exact Rp.cov cv _ _ h2
  | o n =>
    obtain ⟨a, h3, h4⟩ := h2
    obtain ⟨new, rfl⟩ := pre
    refine ⟨a, ?_, h4⟩
    rw [List.getElem?_append_left (List.getElem?_eq_some_iff.mp h3).1]
    exact h3
  | k ds =>
    obtain ⟨a, xs, e, h3, h4⟩ := h2
    exact ⟨a, xs, e, h3.cov cv, RpL.cov cv _ _ h4⟩
end

/-! ### list comprehensions -/
def cloop (tg : Tg) (tst : ST) (elt : SE) (Γ : Env) (src : Src) : Nat → Nat → Sto → R (List PyData)
  | 0, _, _ => .bad
  | f + 1, i, S => match nxt src S i with
    | none => .bad
    | some none => .ok [] S
    | some (some d) => match tg d Γ with
      | none => .bad
      | some Γ2 => (tst Γ2 S).bind fun b S1 => if b = true then (elt Γ2 S1).bind fun v S2 => match v with
          | .d y => (cloop tg tst elt Γ src f (i + 1) S2).bind fun r S3 => .ok (y :: r) S3
          | _ => .bad
        else cloop tg tst elt Γ src f (i + 1) S1
def wipeE (Γ : Env) : List Nat → Env
  | [] => Γ
  | v :: vs => (wipeE Γ vs).set v none
def sComp (vs : List Nat) (it : SI) (tg : Tg) (tst : ST) (elt : SE) : SE := fun Γ S => (it Γ S).bind fun src S1 =>
  if fuelOf src ≤ SZ then (cloop tg tst elt (wipeE Γ vs) src (fuelOf src) 0 S1).bind fun r S2 => .ok (.d (.list r)) S2 else .bad
def sYes : ST := fun _ S => .ok true S
section
variable {X : Cx} {σ : L2.St} {H : Hp} {Q : VK} {K : PySem.W.Frag}
theorem lts_nil : PTs X [] (LT X.K sYes) := ⟨fun pins s σ H Q I ⟨Γ, S, ρ, τ, v, S', hS, hE, hf, hc⟩ => by
  cases hf
  exact pts_nil.run pins s σ H Q I (hc ρ H (Ext.refl hS) hS)⟩
theorem lts_one {c : Expr} {t : ST} (h : PT X c (LT X.K t)) : PTs X [c] (LT X.K t) := pts_one h
theorem wipe_get {σ : L2.St} {j : Nat} : ∀ {vs : List Nat}, (wipe σ vs)[j]? = if j ∈ vs then σ[j]?.map (fun _ => none) else σ[j]?
  | [] => by simp [wipe]
  | v :: vs => by
    unfold wipe
    by_cases h : v = j
    · subst h
      rw [if_pos List.mem_cons_self]
      by_cases hl : v < σ.length
      · rw [List.getElem?_set_self (by rw [wipe_length]; exact hl), List.getElem?_eq_getElem hl]
        rfl
      · rw [List.getElem?_eq_none (by simp [wipe_length]; omega), List.getElem?_eq_none (by omega)]
        rfl
    · rw [List.getElem?_set_ne h, wipe_get (vs := vs)]
      by_cases hm : j ∈ vs
      · rw [if_pos hm, if_pos (List.mem_cons_of_mem _ hm)]
      · rw [if_neg hm, if_neg]
        intro z
        rcases List.mem_cons.mp z with z | z
        · exact h z.symm
        · exact hm z
theorem wipe_same {σ σ' : L2.St} {is vs : List Nat} (w : WSame is (wipe σ vs) σ') (h : ∀ i ∈ is, i ∈ vs) : wipe σ' vs = wipe σ vs := by
  apply List.ext_getElem?
  intro j
  have hlen := w.1
  rw [wipe_length] at hlen
  rw [wipe_get, wipe_get]
  by_cases hm : j ∈ vs
  · rw [if_pos hm, if_pos hm]
    by_cases hl : j < σ.length
    · rw [List.getElem?_eq_getElem hl, List.getElem?_eq_getElem (by omega)]
      rfl
    · rw [List.getElem?_eq_none (by omega), List.getElem?_eq_none (by omega)]
  · rw [if_neg hm, if_neg hm]
    have := w.2 j (fun z => hm (h j z))
    rw [this, wipe_get, if_neg hm]
theorem EnR.wipe {ρ τ : List Addr} {Γ : Env} (h : EnR K H ρ τ σ Γ) : ∀ vs : List Nat, EnR K H ρ τ (wipe σ vs) (wipeE Γ vs)
  | [] => h
  | v :: vs => (EnR.wipe h vs).setNone
def sCompN (vs : List Nat) (it : SI) (tg : Tg) (tst : ST) (elt : SE) : SE := fun Γ S => (it Γ S).bind fun src S1 =>
  if fuelOf src ≤ SZ then (cloop tg tst elt (wipeE Γ vs) src (fuelOf src) 0 S1).bind fun r S2 => .ok (.o S2.length) (S2 ++ [.lst r]) else .bad
/-- the made list stands apart at the end -/
theorem le_compA {vs is : List Nat} {it : SI} {tg : Tg} {tst : ST} {elt : SE} (hv : ∀ i ∈ is, i ∈ vs) {Γ : Env} {S S1 S' : Sto} {ρ τ : List Addr} {src : Src} {res : List PyData} (hS : StR K ρ τ S H) (hE : EnR K H ρ τ σ Γ) (h1 : it Γ S = .ok src S1) (hz : fuelOf src ≤ SZ)
    (hl : cloop tg tst elt (wipeE Γ vs) src (fuelOf src) 0 S1 = .ok res S')
    (hc : ∀ ρ2 H2 D xs, Ext ρ τ H ρ2 H2 → H D = none → D ∉ τ → StR K ρ2 (τ ++ [D]) S' H2 → H2 D = some (.lst xs) → RpL K H2 (ρ2 ++ (τ ++ [D])) xs res → Q (.ref D) H2) : tLc (LI K it) (LG K is tg) (LT K tst) (LE K elt) vs σ H Q := by
  refine ⟨Γ, S, ρ, τ, src, S1, hS, hE, h1, fun ρ1 H1 J x1 hS1 hJ D hD => ?_⟩
  have hDn := hS1.notin hD
  have hDρ : D ∉ ρ1 := fun z => hDn (List.mem_append_left _ z)
  have hDτ : D ∉ τ := fun z => hDn (List.mem_append_right _ z)
  have hE1 := hE.ext x1
  refine ⟨fun i m H2 => ∃ S2 ρ2 acc xs r, StR K ρ2 (τ ++ [D]) S2 H2 ∧ Ext ρ1 τ H1 ρ2 H2 ∧ i + m = fuelOf src ∧ cloop tg tst elt (wipeE Γ vs) src m i S2 = .ok r S' ∧ H2 D = some (.lst xs) ∧ RpL K H2 (ρ2 ++ (τ ++ [D])) xs acc ∧ acc.length ≤ i ∧ acc ++ r = res, ?_, ?_⟩
  · obtain ⟨g1, g2⟩ := hS1.fresh (o := .lst []) hD
    refine ⟨fuelOf src, S1, ρ1, [], [], res, ⟨hS1.nd, fun a ha z => ?_, fun a ha => ?_, pairedMono hS1.all fun a p ha q => q.cov ⟨fun b u hb _ => by rw [upd_ne (ne_of_none hb hD)]; exact hb, fun b u hb hm hm2 => ?_⟩ (upd_ne fun z => hDρ (by rw [← z]; exact ha))⟩, g2, by omega, hl, upd_same, .nil, Nat.le_refl _, rfl⟩
    · rcases List.mem_append.mp z with z | z
      · exact hS1.ap a ha z
      · exact hDρ (by rw [← List.mem_singleton.mp z]; exact ha)
    · rcases List.mem_append.mp ha with ha | ha
      · exact g1.tk a ha
      · rw [List.mem_singleton.mp ha, upd_same]
        exact fun z => by cases z
    · rcases List.mem_append.mp hm2 with hm2 | hm2
      · exact hm (List.mem_append_left _ hm2)
      · rcases List.mem_append.mp hm2 with hm2 | hm2
        · exact hm (List.mem_append_right _ hm2)
        · rw [List.mem_singleton.mp hm2, hD] at hb
          cases hb
  · rintro i m H2 ⟨S2, ρ2, acc, xs, r, gS, gx, em, gl, gD, gr, gle, ge⟩
    have cv : Cov (ρ1 ++ τ) H1 (ρ2 ++ (τ ++ [D])) H2 := ⟨fun a o e hn => gx.keep a o e fun z => hn (List.mem_append_left _ z), fun a o e hn hm => by
      rcases List.mem_append.mp hm with hm | hm
      · obtain ⟨new, rfl, hnew⟩ := gx.pre
        rcases List.mem_append.mp hm with hm | hm
        · exact hn (List.mem_append_left _ hm)
        · rw [hnew a hm] at e
          cases e
      · rcases List.mem_append.mp hm with hm | hm
        · exact hn (List.mem_append_right _ hm)
        · rw [List.mem_singleton.mp hm, hD] at e
          cases e⟩
    have pre : ∃ new, ρ2 = ρ1 ++ new := let ⟨new, e, _⟩ := gx.pre; ⟨new, e⟩
    obtain ⟨go, stop⟩ := src_go hJ cv pre gS
    have hEw : EnR K H2 ρ2 (τ ++ [D]) (wipe σ vs) (wipeE Γ vs) := (hE1.wipe vs).cov cv pre
    cases m with
    | zero => cases gl
    | succ m =>
      unfold cloop at gl
      split at gl
      · cases gl
      · rename_i e
        cases gl
        rw [List.append_nil] at ge
        subst ge
        refine .inl ⟨stop i e, ?_⟩
        have hDm : D ∈ τ ++ [D] := List.mem_append_right _ (List.mem_singleton.mpr rfl)
        have hDH : H D = none := by
          cases e9 : H D with
          | none => rfl
          | some o =>
            by_cases z : D ∈ ρ
            · exact absurd hD (x1.trk D (by obtain ⟨new, rfl, _⟩ := x1.pre; exact List.mem_append_left _ z))
            · rw [x1.keep D o e9 z] at hD
              cases hD
        exact hc ρ2 H2 D xs (x1.trans gx) hDH hDτ gS gD gr
      · rename_i d e
        split at gl
        · cases gl
        · rename_i Γ2 ht
          obtain ⟨b, S4, e4, gl⟩ := R.bind_ok gl
          obtain ⟨hgo, hy⟩ := go i d e
          refine .inr ⟨hgo, fun H' => ∃ S2 ρ2 acc xs r, StR K ρ2 (τ ++ [D]) S2 H' ∧ Ext ρ1 τ H1 ρ2 H' ∧ (i + 1) + m = fuelOf src ∧ cloop tg tst elt (wipeE Γ vs) src m (i + 1) S2 = .ok r S' ∧ H' D = some (.lst xs) ∧ RpL K H' (ρ2 ++ (τ ++ [D])) xs acc ∧ acc.length ≤ i + 1 ∧ acc ++ r = res, fun H' hN => ⟨m, Nat.lt_succ_self _, hN⟩, fun x H3 hx => ?_⟩
          obtain ⟨hg, hr⟩ := hy x H3 hx
          obtain ⟨gS3, gx3⟩ := grown gS hg
          refine ⟨wipeE Γ vs, S2, ρ2, τ ++ [D], d, Γ2, gS3, hEw.ext gx3, hr, ht, fun σ' hE' hw => ⟨wipe_same hw hv, ?_⟩⟩
          refine ⟨Γ2, S2, ρ2, τ ++ [D], b, S4, gS3, hE', e4, fun ρ4 H4 gx4 gS4 => ?_⟩
          have x4 : Ext ρ2 (τ ++ [D]) H2 ρ4 H4 := gx3.trans gx4
          have hDm : D ∈ τ ++ [D] := List.mem_append_right _ (List.mem_singleton.mpr rfl)
          have hD2 : D ∉ ρ2 := fun z => gS.ap D z hDm
          cases b with
          | false =>
            dsimp only
            rw [if_neg Bool.false_ne_true]
            rw [if_neg Bool.false_ne_true] at gl
            exact ⟨S4, ρ4, acc, xs, r, gS4, gx.trans x4.tau, by omega, gl, x4.keep D _ gD hD2, RpL.cov x4.cov _ _ gr, by omega, ge⟩
          | true =>
            dsimp only
            rw [if_pos rfl]
            rw [if_pos rfl] at gl
            obtain ⟨v, S5, e5, gl⟩ := R.bind_ok gl
            refine ⟨Γ2, S4, ρ4, τ ++ [D], v, S5, gS4, hE'.ext gx4, e5, fun ρ5 H5 y gx5 gS5 hy5 => ?_⟩
            split at gl
            · rename_i yd
              obtain ⟨r', S6, e6, gl⟩ := R.bind_ok gl
              cases gl
              have x5 : Ext ρ2 (τ ++ [D]) H2 ρ5 H5 := x4.trans gx5
              have hD5 := x5.keep D _ gD hD2
              have hDρ5 : D ∉ ρ5 := fun z => gS5.ap D z hDm
              have gr5 := RpL.cov x5.cov _ _ gr
              refine ⟨xs, hD5, ?_, ?_⟩
              · rw [gr5.length, ← SZ_eq]
                omega
              · have cv5 : Cov (ρ5 ++ (τ ++ [D])) H5 (ρ5 ++ (τ ++ [D])) (upd H5 D (.lst (xs ++ [y]))) := ⟨fun a o ea hn => by rw [upd_ne (fun z => hn (by rw [z]; exact List.mem_append_right _ hDm))]; exact ea, fun _ _ _ n => n⟩
                refine ⟨S5, ρ5, acc ++ [yd], xs ++ [y], r', ⟨gS5.nd, gS5.ap, fun a ha => ?_, pairedMono gS5.all fun a p ha q => q.cov cv5 (upd_ne (fun z => hDρ5 (by rw [← z]; exact ha)))⟩, ⟨?_, fun a o ea hn => ?_, fun a ha => ?_⟩, by omega, e6, upd_same, RpL.cov cv5 _ _ (gr5.snoc hy5), by rw [List.length_append]; show acc.length + 1 ≤ i + 1; omega, by rw [List.append_assoc]; exact ge⟩
                · by_cases z : a = D
                  · rw [z, upd_same]; exact fun z => by cases z
                  · rw [upd_ne z]; exact gS5.tk a ha
                · exact (gx.trans x5.tau).pre
                · have hne : a ≠ D := fun z => by rw [z, hD] at ea; cases ea
                  rw [upd_ne hne]
                  exact (gx.trans x5.tau).keep a o ea hn
                · by_cases z : a = D
                  · rw [z, upd_same]; exact fun z => by cases z
                  · rw [upd_ne z]; exact gS5.trk ha
            · cases gl
theorem le_comp {vs is : List Nat} {it : SI} {tg : Tg} {tst : ST} {elt : SE} (hv : ∀ i ∈ is, i ∈ vs) (h : LE K (sComp vs it tg tst elt) σ H Q) : tLc (LI K it) (LG K is tg) (LT K tst) (LE K elt) vs σ H Q := by
  obtain ⟨Γ, S, ρ, τ, v, S', hS, hE, hf, hc⟩ := h
  obtain ⟨src, S1, h1, hf⟩ := R.bind_ok hf
  split at hf
  · rename_i hz
    obtain ⟨res, S3, hl, hf⟩ := R.bind_ok hf
    cases hf
    refine le_compA hv hS hE h1 hz hl fun ρ2 H2 D xs gx hDH hDτ gS gD gr => ?_
    have hDm : D ∈ τ ++ [D] := List.mem_append_right _ (List.mem_singleton.mpr rfl)
    have less : ∀ a ∈ ρ2 ++ τ, a ∈ ρ2 ++ (τ ++ [D]) := fun a ha => by
      rcases List.mem_append.mp ha with ha | ha
      · exact List.mem_append_left _ ha
      · exact List.mem_append_right _ (List.mem_append_left _ ha)
    refine hc ρ2 H2 (.ref D) gx ⟨gS.nd, fun a ha z => gS.ap a ha (List.mem_append_left _ z), fun a ha => gS.tk a (List.mem_append_left _ ha), pairedMono gS.all fun a p _ q => q.cov (Cov.less less) rfl⟩ ?_
    exact (show Rp _ _ _ _ _ from .lst ⟨gD, fun z => by
      rcases List.mem_append.mp z with z | z
      · exact gS.ap D z hDm
      · exact hDτ z⟩ (RpL.cov (Cov.less less) _ _ gr))
  · cases hf
theorem le_compN {vs is : List Nat} {it : SI} {tg : Tg} {tst : ST} {elt : SE} (hv : ∀ i ∈ is, i ∈ vs) (h : LE K (sCompN vs it tg tst elt) σ H Q) : tLc (LI K it) (LG K is tg) (LT K tst) (LE K elt) vs σ H Q := by
  obtain ⟨Γ, S, ρ, τ, v, S', hS, hE, hf, hc⟩ := h
  obtain ⟨src, S1, h1, hf⟩ := R.bind_ok hf
  split at hf
  · rename_i hz
    obtain ⟨res, S3, hl, hf⟩ := R.bind_ok hf
    cases hf
    refine le_compA hv hS hE h1 hz hl fun ρ2 H2 D xs gx hDH hDτ gS gD gr => ?_
    have hDm : D ∈ τ ++ [D] := List.mem_append_right _ (List.mem_singleton.mpr rfl)
    have hD2 : D ∉ ρ2 := fun z => gS.ap D z hDm
    have less : ∀ a ∈ (ρ2 ++ [D]) ++ τ, a ∈ ρ2 ++ (τ ++ [D]) := fun a ha => by
      simp only [List.mem_append, List.mem_singleton] at ha ⊢
      rcases ha with (ha | ha) | ha
      · exact .inl ha
      · exact .inr (.inr ha)
      · exact .inr (.inl ha)
    have hlen : ρ2.length = S3.length := gS.len
    refine hc (ρ2 ++ [D]) H2 (.ref D) ⟨?_, fun a o e n => gx.keep a o e n, fun a ha => ?_⟩ ⟨?_, fun a ha z => ?_, fun a ha => gS.tk a (List.mem_append_left _ ha), ?_⟩ ⟨D, ?_, rfl⟩
    · obtain ⟨new, rfl, hn⟩ := gx.pre
      refine ⟨new ++ [D], by rw [List.append_assoc], fun a ha => ?_⟩
      rcases List.mem_append.mp ha with ha | ha
      · exact hn a ha
      · rw [List.mem_singleton.mp ha]; exact hDH
    · rcases List.mem_append.mp ha with ha | ha
      · exact gx.trk a ha
      · rw [List.mem_singleton.mp ha, gD]; exact fun z => by cases z
    · rw [List.nodup_append]
      refine ⟨gS.nd, List.nodup_cons.mpr ⟨by simp, List.nodup_nil⟩, fun a ha b hb z => ?_⟩
      rw [List.mem_singleton.mp hb] at z
      exact hD2 (z ▸ ha)
    · rcases List.mem_append.mp ha with ha | ha
      · exact gS.ap a ha (List.mem_append_left _ z)
      · rw [List.mem_singleton.mp ha] at z; exact hDτ z
    · refine pairedAppend (pairedMono gS.all fun a p _ q => q.cov (Cov.less less) rfl) (.cons ⟨xs, gD, RpL.cov (Cov.less less) _ _ gr⟩ .nil)
    · rw [← hlen, List.getElem?_append_right (Nat.le_refl _), Nat.sub_self]
      rfl
  · cases hf
end
end L2.Pv

set_option Elab.async false
set_option linter.all false
set_option maxRecDepth 100000
namespace L2.Pv
open PySem PySem.Spec PyProof.Rows L2

/-! ### statements -/
inductive Fl where
  | nx (Γ : Env)
  | rt (v : Vl)
  | bk (Γ : Env)
  | ct (Γ : Env)
abbrev SS := Env → Sto → R Fl
def SC (K : PySem.W.Frag) (ρ τ : List Addr) (H : Hp) (S' : Sto) (D : Ends) : Fl → Prop
  | .nx Γ' => ∀ ρ' H' σ', Ext ρ τ H ρ' H' → StR K ρ' τ S' H' → EnR K H' ρ' τ σ' Γ' → D.nx σ' H'
  | .rt v => ∀ ρ' H' x, Ext ρ τ H ρ' H' → StR K ρ' τ S' H' → Vr K H' ρ' τ x v → D.rt x H'
  | .bk Γ' => ∀ ρ' H' σ', Ext ρ τ H ρ' H' → StR K ρ' τ S' H' → EnR K H' ρ' τ σ' Γ' → D.bk σ' H'
  | .ct Γ' => ∀ ρ' H' σ', Ext ρ τ H ρ' H' → StR K ρ' τ S' H' → EnR K H' ρ' τ σ' Γ' → D.ct σ' H'
def LS (K : PySem.W.Frag) (f : SS) : TS := fun D σ H => ∃ Γ S ρ τ fl S', StR K ρ τ S H ∧ EnR K H ρ τ σ Γ ∧ f Γ S = .ok fl S' ∧ SC K ρ τ H S' D fl
theorem SC.mono {K : PySem.W.Frag} {ρ ρ1 τ : List Addr} {H H1 : Hp} {S' : Sto} {D : Ends} {fl : Fl} (x : Ext ρ τ H ρ1 H1) (h : SC K ρ τ H S' D fl) : SC K ρ1 τ H1 S' D fl := by
  cases fl with
  | nx Γ => exact fun ρ' H' σ' x' => h ρ' H' σ' (x.trans x')
  | rt v => exact fun ρ' H' σ' x' => h ρ' H' σ' (x.trans x')
  | bk Γ => exact fun ρ' H' σ' x' => h ρ' H' σ' (x.trans x')
  | ct Γ => exact fun ρ' H' σ' x' => h ρ' H' σ' (x.trans x')
def sSkip : SS := fun Γ S => .ok (.nx Γ) S
def sThen (f : Fl) (S : Sto) (b : SS) : R Fl := match f with
  | .nx Γ => b Γ S
  | f => .ok f S
def sSeq (a b : SS) : SS := fun Γ S => (a Γ S).bind fun f S1 => sThen f S1 b
def sDrop (e : SE) : SS := fun Γ S => (e Γ S).bind fun _ S1 => .ok (.nx Γ) S1
def sRet (e : SE) : SS := fun Γ S => (e Γ S).bind fun v S1 => .ok (.rt v) S1
def sRetN : SS := fun _ S => .ok (.rt (.d .none)) S
def sIte (c : ST) (a b : SS) : SS := fun Γ S => (c Γ S).bind fun x S1 => if x = true then a Γ S1 else b Γ S1
def sSet (i : Nat) (e : SE) : SS := fun Γ S => (e Γ S).bind fun v S1 => .ok (.nx (Γ.set i (some v))) S1
def sAsg (t : Tg) (e : SE) : SS := fun Γ S => (e Γ S).bind fun v S1 => match v with
  | .d d => match t d Γ with
    | some Γ' => .ok (.nx Γ') S1
    | none => .bad
  | _ => .bad
def sPar (i j : Nat) (a b : SE) : SS := fun Γ S => (a Γ S).bind fun v S1 => (b Γ S1).bind fun w S2 => .ok (.nx ((Γ.set i (some v)).set j (some w))) S2
def sBrk : SS := fun Γ S => .ok (.bk Γ) S
def sCnt : SS := fun Γ S => .ok (.ct Γ) S
def sBad : SS := fun _ _ => .bad
/-- a[i] = e: a list of the store -/
def gPut (o i v : Vl) (S : Sto) : Option Sto := match o with
  | .o n => match intOf i with
    | some k => match v with
      | .d d => match lstOf S n with
        | some ds => (ixN ds.length k).map fun j => S.set n (.lst (ds.set j d))
        | none => none
      | _ => none
    | none => none
  | _ => none
def sPut (o i e : SE) : SS := fun Γ S => (e Γ S).bind fun v S1 => (o Γ S1).bind fun x S2 => (i Γ S2).bind fun y S3 => match gPut x y v S3 with
  | some S4 => .ok (.nx Γ) S4
  | none => .bad
def floop (tg : Tg) (b : SS) (src : Src) : Nat → Nat → Env → Sto → R Fl
  | 0, _, _, _ => .bad
  | f + 1, i, Γ, S => match nxt src S i with
    | none => .bad
    | some none => .ok (.nx Γ) S
    | some (some d) => match tg d Γ with
      | none => .bad
      | some Γ2 => (b Γ2 S).bind fun fl S1 => match fl with
        | .nx Γ3 => floop tg b src f (i + 1) Γ3 S1
        | .ct Γ3 => floop tg b src f (i + 1) Γ3 S1
        | .bk Γ3 => .ok (.nx Γ3) S1
        | .rt v => .ok (.rt v) S1
def sFor (it : SI) (tg : Tg) (b : SS) : SS := fun Γ S => (it Γ S).bind fun src S1 => floop tg b src (fuelOf src) 0 Γ S1
def wloop (c : ST) (b : SS) : Nat → Env → Sto → R Fl
  | 0, _, _ => .bad
  | f + 1, Γ, S => (c Γ S).bind fun x S1 => if x = true then (b Γ S1).bind fun fl S2 => match fl with
        | .nx Γ3 => wloop c b f Γ3 S2
        | .ct Γ3 => wloop c b f Γ3 S2
        | .bk Γ3 => .ok (.nx Γ3) S2
        | .rt v => .ok (.rt v) S2
      else .ok (.nx Γ) S1
def sWhile (c : ST) (b : SS) : SS := wloop c b bigFuel

section
variable {X : Cx} {e a c : Expr} {fe fa fc : SE} {ta : ST} {sa sb : SS} {st : Stmt} {rest body : List Stmt} {pos : Pos}
theorem _root_.L2.PS.weak {e : Stmt} {t t' : TS} (h : PS X e t) (w : ∀ D σ H, t' D σ H → t D σ H) : PS X e t' := ⟨fun pins s σ H D I hq => h.run pins s σ H D I (w _ _ _ hq)⟩
theorem _root_.L2.PSs.weak {e : List Stmt} {t t' : TS} (h : PSs X e t) (w : ∀ D σ H, t' D σ H → t D σ H) : PSs X e t' := ⟨fun pins s σ H D I hq => h.run pins s σ H D I (w _ _ _ hq)⟩
theorem ls_nil : PSs X [] (LS X.K sSkip) := pss_nil.weak fun D σ H ⟨Γ, S, ρ, τ, fl, S', hS, hE, hf, hc⟩ => by
  cases hf
  exact hc ρ H σ (Ext.refl hS) hS hE
theorem ls_cons (h1 : PS X st (LS X.K sa)) (h2 : PSs X rest (LS X.K sb)) : PSs X (st :: rest) (LS X.K (sSeq sa sb)) := (pss_cons h1 h2).weak fun D σ H ⟨Γ, S, ρ, τ, fl, S', hS, hE, hf, hc⟩ => by
  obtain ⟨f1, S1, h3, hf⟩ := R.bind_ok hf
  refine ⟨Γ, S, ρ, τ, f1, S1, hS, hE, h3, ?_⟩
  cases f1 with
  | nx Γ1 => exact fun ρ' H' σ' x hS' hE' => ⟨Γ1, S1, ρ', τ, fl, S', hS', hE', hf, hc.mono x⟩
  | rt v => cases hf; exact hc
  | bk Γ1 => cases hf; exact hc
  | ct Γ1 => cases hf; exact hc
theorem ls_one (h1 : PS X st (LS X.K sa)) : PSs X [st] (LS X.K sa) := pss_one h1
theorem ls_pass : PS X (.Pass pos) (LS X.K sSkip) := ps_pass.weak fun D σ H ⟨Γ, S, ρ, τ, fl, S', hS, hE, hf, hc⟩ => by
  cases hf
  exact hc ρ H σ (Ext.refl hS) hS hE
theorem ls_doc {x : Str} {j : Nat} {p2 : Pos} : PS X (.Expr (.Constant (.str x) j p2) pos) (LS X.K sSkip) := ps_doc.weak fun D σ H ⟨Γ, S, ρ, τ, fl, S', hS, hE, hf, hc⟩ => by
  cases hf
  exact hc ρ H σ (Ext.refl hS) hS hE
theorem ls_brk : PS X (.Break pos) (LS X.K sBrk) := ps_break.weak fun D σ H ⟨Γ, S, ρ, τ, fl, S', hS, hE, hf, hc⟩ => by
  cases hf
  exact hc ρ H σ (Ext.refl hS) hS hE
theorem ls_cnt : PS X (.Continue pos) (LS X.K sCnt) := ps_continue.weak fun D σ H ⟨Γ, S, ρ, τ, fl, S', hS, hE, hf, hc⟩ => by
  cases hf
  exact hc ρ H σ (Ext.refl hS) hS hE
theorem ls_bad : PS X st (LS X.K sBad) := ps_never.weak fun D σ H ⟨Γ, S, ρ, τ, fl, S', hS, hE, hf, hc⟩ => by
  cases hf
theorem ls_drop (he : PE X e (LE X.K fe)) (hs : swapsWith e none pos.line X.env = pure false) : PS X (.Expr e pos) (LS X.K (sDrop fe)) := (ps_expr he hs).weak fun D σ H ⟨Γ, S, ρ, τ, fl, S', hS, hE, hf, hc⟩ => by
  obtain ⟨v, S1, h1, hf⟩ := R.bind_ok hf
  cases hf
  exact ⟨Γ, S, ρ, τ, v, _, hS, hE, h1, fun ρ1 H1 x x1 hS1 _ => hc ρ1 H1 σ x1 hS1 (hE.ext x1)⟩
theorem ls_ret (he : PE X e (LE X.K fe)) : PS X (.Return (some e) pos) (LS X.K (sRet fe)) := (ps_ret he).weak fun D σ H ⟨Γ, S, ρ, τ, fl, S', hS, hE, hf, hc⟩ => by
  obtain ⟨v, S1, h1, hf⟩ := R.bind_ok hf
  cases hf
  exact ⟨Γ, S, ρ, τ, _, _, hS, hE, h1, hc⟩
theorem ls_retN : PS X (.Return none pos) (LS X.K sRetN) := ps_retN.weak fun D σ H ⟨Γ, S, ρ, τ, fl, S', hS, hE, hf, hc⟩ => by
  cases hf
  exact hc ρ H _ (Ext.refl hS) hS (show Rp _ _ _ _ _ from .non)
theorem ls_if {a b : List Stmt} (hc : PT X c (LT X.K ta)) (ha : PSs X a (LS X.K sa)) (hb : PSs X b (LS X.K sb)) : PS X (.If c a b pos) (LS X.K (sIte ta sa sb)) := (ps_if hc ha hb).weak fun D σ H ⟨Γ, S, ρ, τ, fl, S', hS, hE, hf, hc⟩ => by
  obtain ⟨v, S1, h1, hf⟩ := R.bind_ok hf
  refine ⟨Γ, S, ρ, τ, v, S1, hS, hE, h1, fun ρ1 H1 x1 hS1 => ?_⟩
  cases v with
  | true =>
    rw [if_pos rfl] at hf ⊢
    exact ⟨Γ, S1, ρ1, τ, fl, S', hS1, hE.ext x1, hf, hc.mono x1⟩
  | false =>
    rw [if_neg Bool.false_ne_true] at hf ⊢
    exact ⟨Γ, S1, ρ1, τ, fl, S', hS1, hE.ext x1, hf, hc.mono x1⟩
theorem ls_set_of {i : Nat} {t : TS} (h : PS X st (tAsg (LE X.K fe) (gName i))) : PS X st (LS X.K (sSet i fe)) := h.weak fun D σ H ⟨Γ, S, ρ, τ, fl, S', hS, hE, hf, hc⟩ => by
  obtain ⟨v, S1, h1, hf⟩ := R.bind_ok hf
  cases hf
  exact ⟨Γ, S, ρ, τ, _, _, hS, hE, h1, fun ρ1 H1 x x1 hS1 q1 => hc ρ1 H1 _ x1 hS1 ((hE.ext x1).set q1)⟩
theorem ls_asg {tg : Expr} {is : List Nat} {t : Tg} (he : PE X e (LE X.K fe)) (hg : PG X tg (LG X.K is t)) (hs : swapsWithSole [tg] e pos.line X.env = pure false) (hw : swappedStores [tg] e X.env = pure none) (h1 : (assignEach [tg] X.env).map (·.2) = [assign tg X.env]) :
    PS X (.Assign [tg] e pos) (LS X.K (sAsg t fe)) := (ps_asg he hg hs hw h1).weak fun D σ H ⟨Γ, S, ρ, τ, fl, S', hS, hE, hf, hc⟩ => by
  obtain ⟨v, S1, h1, hf⟩ := R.bind_ok hf
  split at hf
  · split at hf
    · rename_i Γ' ht
      cases hf
      exact ⟨Γ, S, ρ, τ, _, _, hS, hE, h1, fun ρ1 H1 x x1 hS1 q1 => ⟨Γ, S', ρ1, τ, _, Γ', hS1, hE.ext x1, q1, ht, fun σ' hE' _ => hc ρ1 H1 σ' x1 hS1 hE'⟩⟩
    · cases hf
  · cases hf
theorem gPut_ok {K : PySem.W.Frag} {ρ τ : List Addr} {H : Hp} {S S' : Sto} {o i v : Vl} {x y z : V} (hS : StR K ρ τ S H) (ho : Vr K H ρ τ x o) (hi : Vr K H ρ τ y i) (hv : Vr K H ρ τ z v) (e : gPut o i v S = some S') :
    ∃ a xs k j, x = .ref a ∧ y = .int k ∧ H a = some (.lst xs) ∧ ixN xs.length k = some j ∧ StR K ρ τ S' (upd H a (.lst (xs.set j z))) ∧ Ext ρ τ H ρ (upd H a (.lst (xs.set j z))) := by
  unfold gPut at e
  split at e
  · rename_i n
    split at e
    · rename_i k ek
      split at e
      · split at e
        · rename_i ds el
          obtain ⟨j, hj, rfl⟩ := Option.map_eq_some_iff.mp e
          obtain ⟨a, ha, rfl⟩ := ho
          obtain ⟨xs, h3, h4⟩ := hS.lstAt ha el
          have hm : a ∈ ρ := List.mem_of_getElem? ha
          have cv : Cov (ρ ++ τ) H (ρ ++ τ) (upd H a (.lst (xs.set j z))) := ⟨fun b u hb hn => by rw [upd_ne (fun q => hn (by rw [q]; exact List.mem_append_left _ hm))]; exact hb, fun _ _ _ n => n⟩
          obtain ⟨g1, g2⟩ := hS.put (o := .lst (xs.set j z)) (p := .lst (ds.set j _)) ha ⟨_, upd_same, RpL.cov cv _ _ (h4.set j hv)⟩
          exact ⟨a, xs, k, j, rfl, intOf_rp hi ek, h3, by rw [h4.length]; exact hj, g1, g2⟩
        · cases e
      · cases e
    · cases e
  · cases e
theorem ls_put {o i : Expr} {fo fi : SE} {p2 : Pos} (ho : PE X o (LE X.K fo)) (hi : PE X i (LE X.K fi)) (he : PE X e (LE X.K fe)) (hs : swapsWithSole [.Subscript o i p2] e pos.line X.env = pure false) (hw : swappedStores [.Subscript o i p2] e X.env = pure none) (hcell : ∀ v, assign (.Subscript o i p2) X.env v = (do
      let ov ← holding [v] (eval o X.env)
      let iv ← holding [v, ov] (eval i X.env)
      standAt p2
      holding [v, ov, iv] (setItem ov iv v)
      release [v, ov, iv] [])) :
    PS X (.Assign [.Subscript o i p2] e pos) (LS X.K (sPut fo fi fe)) := (ps_asg he (pg_sub ho hi set_list hcell) hs hw rfl).weak fun D σ H ⟨Γ, S, ρ, τ, fl, S', hS, hE, hf, hc⟩ => by
  obtain ⟨v, S1, h1, hf⟩ := R.bind_ok hf
  obtain ⟨x, S2, h2, hf⟩ := R.bind_ok hf
  obtain ⟨y, S3, h3, hf⟩ := R.bind_ok hf
  split at hf
  · rename_i S4 e4
    cases hf
    refine ⟨Γ, S, ρ, τ, v, S1, hS, hE, h1, fun ρ1 H1 z x1 hS1 q1 => ?_⟩
    refine ⟨Γ, S1, ρ1, τ, x, S2, hS1, hE.ext x1, h2, fun ρ2 H2 u x2 hS2 q2 => ?_⟩
    refine ⟨Γ, S2, ρ2, τ, y, S3, hS2, (hE.ext x1).ext x2, h3, fun ρ3 H3 w x3 hS3 q3 => ?_⟩
    obtain ⟨a, xs, k, j, g1, g2, g3, g4, g5, g6⟩ := gPut_ok hS3 (q2.ext x3) q3 ((q1.ext x2).ext x3) e4
    exact ⟨a, xs, k, j, g1, g2, g3, g4, hc ρ3 _ σ (((x1.trans x2).trans x3).trans g6) g5 ((((hE.ext x1).ext x2).ext x3).ext g6)⟩
  · cases hf
theorem ls_par {i j : Nat} {a b : Expr} {fa fb : SE} (hp : ∀ ta, PA X [a, b] ta → PS X st (tPar i j ta)) (ha : PE X a (LE X.K fa)) (hb : PE X b (LE X.K fb)) (hs : starEach [a, b] X.env = (false, eval a X.env) :: starEach [b] X.env) (hs2 : starEach [b] X.env = (false, eval b X.env) :: starEach [] X.env) :
    PS X st (LS X.K (sPar i j fa fb)) := (hp _ (pa_cons ha (pa_cons hb pa_nil hs2) hs)).weak fun D σ H ⟨Γ, S, ρ, τ, fl, S', hS, hE, hf, hc⟩ => by
  obtain ⟨v, S1, h1, hf⟩ := R.bind_ok hf
  obtain ⟨w, S2, h2, hf⟩ := R.bind_ok hf
  cases hf
  refine ⟨Γ, S, ρ, τ, v, S1, hS, hE, h1, fun ρ1 H1 z x1 hS1 q1 => ?_⟩
  refine ⟨Γ, S1, ρ1, τ, w, _, hS1, hE.ext x1, h2, fun ρ2 H2 u x2 hS2 q2 => ?_⟩
  exact ⟨z, u, rfl, hc ρ2 H2 _ (x1.trans x2) hS2 ((((hE.ext x1).ext x2).set (q1.ext x2)).set q2)⟩
theorem ls_for {tg iter : Expr} {is : List Nat} {t : Tg} {it : SI} (hx : X.xe = fun _ _ => False) (hc : X.calm = true) (hi : PI X tg iter (LI X.K it)) (hg : PG X tg (LG X.K is t)) (hb : PSs X body (LS X.K sa)) (hs : ∀ x, foldedSetIterable iter X.env x = pure x) :
    PS X (.For tg iter body [] pos) (LS X.K (sFor it t sa)) := (ps_for (by rw [hx]; exact PassesOwn.never) hc hi hg hb hs).weak fun D σ H ⟨Γ, S, ρ, τ, fl, S', hS, hE, hf, hc⟩ => by
  obtain ⟨src, S1, h1, hf⟩ := R.bind_ok hf
  refine ⟨Γ, S, ρ, τ, src, S1, hS, hE, h1, fun ρ1 H1 J x1 hS1 hJ => ?_⟩
  have hc1 := hc.mono x1
  refine ⟨fun i m σ2 H2 => ∃ Γ2 S2 ρ2, StR X.K ρ2 τ S2 H2 ∧ EnR X.K H2 ρ2 τ σ2 Γ2 ∧ Ext ρ1 τ H1 ρ2 H2 ∧ floop t sa src m i Γ2 S2 = .ok fl S', ⟨fuelOf src, Γ, S1, ρ1, hS1, hE.ext x1, Ext.refl hS1, hf⟩, ?_⟩
  rintro i m σ2 H2 ⟨Γ2, S2, ρ2, gS, gE, gx, gl⟩
  have pre : ∃ new, ρ2 = ρ1 ++ new := let ⟨new, e, _⟩ := gx.pre; ⟨new, e⟩
  obtain ⟨go, stop⟩ := src_go hJ gx.cov pre gS
  have hc2 := hc1.mono gx
  cases m with
  | zero => cases gl
  | succ m =>
    unfold floop at gl
    split at gl
    · cases gl
    · rename_i e
      cases gl
      exact .inl ⟨stop i e, hc2 ρ2 H2 σ2 (Ext.refl gS) gS gE⟩
    · rename_i d e
      split at gl
      · cases gl
      · rename_i Γ3 ht
        obtain ⟨f4, S4, e4, gl⟩ := R.bind_ok gl
        obtain ⟨hgo, hy⟩ := go i d e
        refine .inr ⟨hgo, fun σ' H' => ∃ Γ2 S2 ρ2, StR X.K ρ2 τ S2 H' ∧ EnR X.K H' ρ2 τ σ' Γ2 ∧ Ext ρ1 τ H1 ρ2 H' ∧ floop t sa src m (i + 1) Γ2 S2 = .ok fl S', fun σ' H' hN => ⟨m, Nat.lt_succ_self _, hN⟩, fun x H3 hx3 => ?_⟩
        obtain ⟨hg3, hr⟩ := hy x H3 hx3
        obtain ⟨gS3, gx3⟩ := grown gS hg3
        refine ⟨Γ2, S2, ρ2, τ, d, Γ3, gS3, gE.ext gx3, hr, ht, fun σ' hE' _ => ?_⟩
        refine ⟨Γ3, S2, ρ2, τ, f4, S4, gS3, hE', e4, ?_⟩
        cases f4 with
        | nx Γ5 => exact fun ρ' H' σ' x' hS' hE' => ⟨Γ5, S4, ρ', hS', hE', (gx.trans gx3).trans x', gl⟩
        | ct Γ5 => exact fun ρ' H' σ' x' hS' hE' => ⟨Γ5, S4, ρ', hS', hE', (gx.trans gx3).trans x', gl⟩
        | bk Γ5 =>
          cases gl
          exact fun ρ' H' σ' x' hS' hE' => hc2 ρ' H' σ' (gx3.trans x') hS' hE'
        | rt v =>
          cases gl
          exact fun ρ' H' σ' x' hS' hE' => hc2 ρ' H' σ' (gx3.trans x') hS' hE'
theorem ls_while (hx : X.xe = fun _ _ => False) (hc : PT X c (LT X.K ta)) (hb : PSs X body (LS X.K sa)) : PS X (.While c body [] pos) (LS X.K (sWhile ta sa)) := (ps_while (by rw [hx]; exact PassesOwn.never) hc hb).weak fun D σ H ⟨Γ, S, ρ, τ, fl, S', hS, hE, hf, hc⟩ => by
  refine ⟨fun m σ2 H2 => ∃ Γ2 S2 ρ2, StR X.K ρ2 τ S2 H2 ∧ EnR X.K H2 ρ2 τ σ2 Γ2 ∧ Ext ρ τ H ρ2 H2 ∧ wloop ta sa m Γ2 S2 = .ok fl S', ⟨bigFuel, Γ, S, ρ, hS, hE, Ext.refl hS, hf⟩, ?_⟩
  rintro m σ2 H2 ⟨Γ2, S2, ρ2, gS, gE, gx, gl⟩
  have hc2 := hc.mono gx
  cases m with
  | zero => cases gl
  | succ m =>
    unfold wloop at gl
    obtain ⟨v, S3, e3, gl⟩ := R.bind_ok gl
    refine ⟨Γ2, S2, ρ2, τ, v, S3, gS, gE, e3, fun ρ3 H3 x3 hS3 => ?_⟩
    cases v with
    | false =>
      dsimp only
      rw [if_neg Bool.false_ne_true] at gl ⊢
      cases gl
      exact hc2 ρ3 H3 σ2 x3 hS3 (gE.ext x3)
    | true =>
      dsimp only
      rw [if_pos rfl] at gl ⊢
      obtain ⟨f4, S4, e4, gl⟩ := R.bind_ok gl
      refine ⟨fun σ' H' => ∃ Γ2 S2 ρ2, StR X.K ρ2 τ S2 H' ∧ EnR X.K H' ρ2 τ σ' Γ2 ∧ Ext ρ τ H ρ2 H' ∧ wloop ta sa m Γ2 S2 = .ok fl S', fun σ' H' hN => ⟨m, Nat.lt_succ_self _, hN⟩, ?_⟩
      refine ⟨Γ2, S3, ρ3, τ, f4, S4, hS3, gE.ext x3, e4, ?_⟩
      cases f4 with
      | nx Γ5 => exact fun ρ' H' σ' x' hS' hE' => ⟨Γ5, S4, ρ', hS', hE', (gx.trans x3).trans x', gl⟩
      | ct Γ5 => exact fun ρ' H' σ' x' hS' hE' => ⟨Γ5, S4, ρ', hS', hE', (gx.trans x3).trans x', gl⟩
      | bk Γ5 =>
        cases gl
        exact fun ρ' H' σ' x' hS' hE' => hc2 ρ' H' σ' (x3.trans x') hS' hE'
      | rt v =>
        cases gl
        exact fun ρ' H' σ' x' hS' hE' => hc2 ρ' H' σ' (x3.trans x') hS' hE'
end
end L2.Pv

set_option Elab.async false
set_option linter.all false
set_option maxRecDepth 100000
namespace L2.Pv
open PySem PySem.Spec PyProof.Rows L2

/-! ### methods -/
def gAppend (x : Vl) : GL := fun vs S => match x with
  | .o n => match vs with
    | [.d y] => match lstOf S n with
      | some ds => if ds.length < SZ then .ok (.d .none) (S.set n (.lst (ds ++ [y]))) else .bad
      | none => .bad
    | _ => .bad
  | _ => .bad
def gExtend (x : Vl) : GL := fun vs S => match x with
  | .o n => match vs with
    | [.d (.list es)] => match lstOf S n with
      | some ds => if ds.length + es.length ≤ SZ then .ok (.d .none) (S.set n (.lst (ds ++ es))) else .bad
      | none => .bad
    | _ => .bad
  | _ => .bad
/-- xs.pop(), xs.pop(i) -/
def gPop (x : Vl) : GL := fun vs S => match x with
  | .o n => match lstOf S n with
    | some ds => match vs with
      | [] => match ds[ds.length - 1]? with
        | some d => .ok (.d d) (S.set n (.lst ds.dropLast))
        | none => .bad
      | [v] => match intOf v with
        | some i => match ixN ds.length i with
          | some j => match ds[j]? with
            | some d => .ok (.d d) (S.set n (.lst (ds.eraseIdx j)))
            | none => .bad
          | none => .bad
        | none => .bad
      | _ => .bad
    | none => .bad
  | _ => .bad
def strsOf : List PyData → Option (List Str)
  | [] => some []
  | .str x :: r => (strsOf r).map (x :: ·)
  | _ :: _ => none
def gJoin (x : Vl) : GL := fun vs S => match x with
  | .d (.str a) => match vs with
    | [v] => match sqOf S v with
      | some (.l ds) => match strsOf ds with
        | some ys => if (ys.map (·.length)).sum + ys.length * a.length ≤ 16777216 then .ok (.d (.str (Str.join a ys))) S else .bad
        | none => .bad
      | some (.t ds) => match strsOf ds with
        | some ys => if (ys.map (·.length)).sum + ys.length * a.length ≤ 16777216 then .ok (.d (.str (Str.join a ys))) S else .bad
        | none => .bad
      | none => .bad
    | _ => .bad
  | _ => .bad
def gStarts (x : Vl) : GL := fun vs S => match x with
  | .d (.str a) => match vs with
    | [.d (.str b)] => .ok (.d (.bool (Txt.startswith a b))) S
    | _ => .bad
  | _ => .bad

section
variable {X : Cx} {o e : Expr} {fo fe : SE} {apos cpos : Pos} {K : PySem.W.Frag} {H : Hp} {ρ τ m : List Addr} {S : Sto}
theorem RpL.eraseIdx : ∀ (i : Nat) {ds : List PyData} {vs : List V}, RpL K H m vs ds → RpL K H m (vs.eraseIdx i) (ds.eraseIdx i)
  | _, [], _, h => by cases h; exact .nil
  | 0, d :: ds, _, h => by
    cases h with
    | cons a b => exact b
  | i + 1, d :: ds, _, h => by
    cases h with
    | cons a b => exact .cons a (RpL.eraseIdx i b)
theorem RpL.dropLast {ds : List PyData} {vs : List V} (h : RpL K H m vs ds) : RpL K H m vs.dropLast ds.dropLast := by
  rw [List.dropLast_eq_take, List.dropLast_eq_take, h.length]
  exact h.take _
/-- a list of the store gets other items -/
theorem put_lst (hS : StR K ρ τ S H) {n : Nat} {a : Addr} {xs : List V} {ds : List PyData} (ha : ρ[n]? = some a) (h : RpL K H (ρ ++ τ) xs ds) : StR K ρ τ (S.set n (.lst ds)) (upd H a (.lst xs)) ∧ Ext ρ τ H ρ (upd H a (.lst xs)) := by
  have hm : a ∈ ρ := List.mem_of_getElem? ha
  exact hS.put ha ⟨_, upd_same, RpL.cov ⟨fun b u hb hn => by rw [upd_ne (fun q => hn (by rw [q]; exact List.mem_append_left _ hm))]; exact hb, fun _ _ _ n => n⟩ _ _ h⟩
end
/-- a method of a list of the store, of a text -/
def sMetO (g : Vl → GL) (a : SE) (fs : List SE) : SE := fun Γ S => (a Γ S).bind fun x S1 => match x with
  | .o n => match lstOf S1 n with
    | some _ => (sArgs fs Γ S1).bind fun vs S2 => g x vs S2
    | none => .bad
  | _ => .bad
def sMetS (g : Vl → GL) (a : SE) (fs : List SE) : SE := fun Γ S => (a Γ S).bind fun x S1 => match x with
  | .d (.str _) => (sArgs fs Γ S1).bind fun vs S2 => g x vs S2
  | _ => .bad
section
variable {X : Cx} {o e : Expr} {fo fe : SE} {fs : List SE} {apos cpos : Pos} {K : PySem.W.Frag} {σ : L2.St} {H : Hp} {Q : VK}
theorem met_o {g : Vl → GL} {RR : V → List V → Hp → VK → Prop} (h2 : ∀ ρ τ S H n a xs vs v S' Q, StR K ρ τ S H → ρ[n]? = some a → VrL K H ρ τ xs vs → g (.o n) vs S = .ok v S' → Cont K ρ τ H S' v Q → RR (.ref a) xs H Q)
    (h : LE K (sMetO g fo fs) σ H Q) : tBM K "list" RR (LE K fo) (LA K (sArgs fs)) σ H Q := by
  obtain ⟨Γ, S, ρ, τ, v, S', hS, hE, hf, hc⟩ := h
  obtain ⟨va, S1, e1, hf⟩ := R.bind_ok hf
  refine ⟨Γ, S, ρ, τ, va, S1, hS, hE, e1, fun ρ1 H1 x x1 hS1 q1 => ?_⟩
  split at hf
  · rename_i n
    split at hf
    · rename_i ds el
      obtain ⟨vs, S2, e2, hf⟩ := R.bind_ok hf
      obtain ⟨a, ha, rfl⟩ := q1
      obtain ⟨xs, h3, h4⟩ := hS1.lstAt ha el
      refine ⟨.inl ⟨rfl, xs, .of h3⟩, ?_⟩
      refine ⟨Γ, S1, ρ1, τ, vs, S2, hS1, hE.ext x1, e2, fun ρ2 H2 ys x2 hS2 q2 => ?_⟩
      obtain ⟨new, e3, _⟩ := x2.pre
      refine h2 ρ2 τ S2 H2 n a ys vs v S' Q hS2 ?_ q2 hf fun ρ3 H3 z x3 hS3 q3 => hc ρ3 H3 z ((x1.trans x2).trans x3) hS3 q3
      rw [e3, List.getElem?_append_left (List.getElem?_eq_some_iff.mp ha).1]
      exact ha
    · cases hf
  · cases hf
theorem mt_app (ρ τ S H n a xs vs v S' Q) (hS : StR K ρ τ S H) (ha : ρ[n]? = some a) (hv : VrL K H ρ τ xs vs) (hg : gAppend (.o n) vs S = .ok v S') (hc : Cont K ρ τ H S' v Q) : rAppend (.ref a) xs H Q := by
  simp only [gAppend] at hg
  split at hg
  · rename_i y
    split at hg
    · rename_i ds el
      split at hg
      · rename_i hz
        cases hg
        obtain ⟨x, rfl, hx⟩ := hv.one rfl
        obtain ⟨zs, h3, h4⟩ := hS.lstAt ha el
        obtain ⟨g1, g2⟩ := put_lst hS ha (h4.snoc hx)
        exact ⟨a, zs, x, rfl, rfl, h3, by rw [h4.length, ← SZ_eq]; exact hz, hc _ _ _ g2 g1 (show Rp _ _ _ _ _ from .non)⟩
      · cases hg
    · cases hg
  · cases hg
theorem mt_ext (ρ τ S H n a xs vs v S' Q) (hS : StR K ρ τ S H) (ha : ρ[n]? = some a) (hv : VrL K H ρ τ xs vs) (hg : gExtend (.o n) vs S = .ok v S') (hc : Cont K ρ τ H S' v Q) : rExtend (.ref a) xs H Q := by
  simp only [gExtend] at hg
  split at hg
  · rename_i es
    split at hg
    · rename_i ds el
      split at hg
      · rename_i hz
        cases hg
        obtain ⟨x, rfl, hx⟩ := hv.one rfl
        obtain ⟨zs, h3, h4⟩ := hS.lstAt ha el
        cases (show Rp _ _ _ _ _ from hx) with
        | lst ta qa =>
          obtain ⟨g1, g2⟩ := put_lst hS ha (h4.append qa)
          exact ⟨a, _, zs, _, rfl, rfl, h3, ta.1, by rw [h4.length, qa.length, ← SZ_eq]; exact hz, hc _ _ _ g2 g1 (show Rp _ _ _ _ _ from .non)⟩
      · cases hg
    · cases hg
  · cases hg
theorem ixN_bound {n : Nat} {i : Int} {j : Nat} (hn : n ≤ SZ) (h : ixN n i = some j) : -(2 ^ 63) ≤ i ∧ i < 2 ^ 63 := by
  obtain ⟨_, h2, h3, h4⟩ := ixN_seq h
  have : SZ = 16777216 := rfl
  omega
theorem mt_pop0 (ρ τ S H n a xs vs v S' Q) (hS : StR K ρ τ S H) (ha : ρ[n]? = some a) (hv : VrL K H ρ τ xs vs) (h0 : vs = []) (hg : gPop (.o n) vs S = .ok v S') (hc : Cont K ρ τ H S' v Q) : rPop (.ref a) xs H Q := by
  subst h0
  cases hv
  simp only [gPop] at hg
  split at hg
  · rename_i ds el
    split at hg
    · rename_i d ed
      cases hg
      obtain ⟨zs, h3, h4⟩ := hS.lstAt ha el
      obtain ⟨g1, g2⟩ := put_lst hS ha h4.dropLast
      obtain ⟨y, h5, h6⟩ := h4.get ed
      exact ⟨a, zs, y, rfl, rfl, h3, by rw [h4.length]; exact h5, hc _ _ _ g2 g1 (Vr.ext g2 (v := .d d) h6)⟩
    · cases hg
  · cases hg
theorem mt_pop1 (ρ τ S H n a xs vs v S' Q) (hS : StR K ρ τ S H) (ha : ρ[n]? = some a) (hv : VrL K H ρ τ xs vs) (h1 : vs.length = 1) (hz : ∀ ds, lstOf S n = some ds → ds.length ≤ SZ) (hg : gPop (.o n) vs S = .ok v S') (hc : Cont K ρ τ H S' v Q) : rPopAt (.ref a) xs H Q := by
  simp only [gPop] at hg
  split at hg
  · rename_i ds el
    split at hg
    · cases h1
    · split at hg
      · rename_i i ei
        split at hg
        · rename_i j ej
          split at hg
          · rename_i d ed
            cases hg
            obtain ⟨x, rfl, hx⟩ := hv.one rfl
            cases intOf_rp hx ei
            obtain ⟨zs, h3, h4⟩ := hS.lstAt ha el
            obtain ⟨g1, g2⟩ := put_lst hS ha (h4.eraseIdx j)
            obtain ⟨y, h5, h6⟩ := h4.get ed
            obtain ⟨b1, b2⟩ := ixN_bound (hz _ el) ej
            exact ⟨a, zs, i, j, y, rfl, rfl, h3, b1, b2, by rw [h4.length]; exact (ixN_seq ej).1, h5, hc _ _ _ g2 g1 (Vr.ext g2 (v := .d d) h6)⟩
          · cases hg
        · cases hg
      · cases hg
    · cases hg
  · cases hg
/-- xs.pop(i): the list is not too long -/
def gPop1 (x : Vl) : GL := fun vs S => match x with
  | .o n => match lstOf S n with
    | some ds => if ds.length ≤ SZ ∧ vs.length = 1 then gPop (.o n) vs S else .bad
    | none => .bad
  | _ => .bad
def gPop0 (x : Vl) : GL := fun vs S => match vs with
  | [] => gPop x [] S
  | _ => .bad
theorem mt_pop0' (ρ τ S H n a xs vs v S' Q) (hS : StR K ρ τ S H) (ha : ρ[n]? = some a) (hv : VrL K H ρ τ xs vs) (hg : gPop0 (.o n) vs S = .ok v S') (hc : Cont K ρ τ H S' v Q) : rPop (.ref a) xs H Q := by
  unfold gPop0 at hg
  split at hg
  · exact mt_pop0 ρ τ S H n a xs _ v S' Q hS ha hv rfl hg hc
  · cases hg
theorem mt_pop1' (ρ τ S H n a xs vs v S' Q) (hS : StR K ρ τ S H) (ha : ρ[n]? = some a) (hv : VrL K H ρ τ xs vs) (hg : gPop1 (.o n) vs S = .ok v S') (hc : Cont K ρ τ H S' v Q) : rPopAt (.ref a) xs H Q := by
  simp only [gPop1] at hg
  split at hg
  · rename_i ds el
    split at hg
    · rename_i hz
      exact mt_pop1 ρ τ S H n a xs vs v S' Q hS ha hv hz.2 (fun ds' e' => by rw [el] at e'; cases e'; exact hz.1) hg hc
    · cases hg
  · cases hg
theorem strs_rp {m : List Addr} : ∀ {ds : List PyData} {xs : List V} {ys : List Str}, RpL K H m xs ds → strsOf ds = some ys → xs = ys.map V.str ∧ ∀ y ∈ ys, PySem.PyData.strOk y = true
  | [], _, _, h, e => by cases h; cases e; exact ⟨rfl, fun _ h => by cases h⟩
  | d :: ds, _, ys, h, e => by
    cases h with
    | cons a b =>
      cases d with
      | str k =>
        obtain ⟨l, h1, h2⟩ := Option.map_eq_some_iff.mp (show (strsOf ds).map (k :: ·) = some ys from e)
        subst h2
        cases a with
        | str _ ok =>
          obtain ⟨e1, e2⟩ := strs_rp b h1
          refine ⟨by rw [e1]; rfl, fun y hy => ?_⟩
          rcases List.mem_cons.mp hy with rfl | hy
          · exact ok
          · exact e2 y hy
      | _ => cases e
theorem strOk_empty : PySem.PyData.strOk Str.empty = true := strOk_iff.mpr fun c hc => absurd hc (by simp [Str.empty])
theorem txt_join (a : Str) (ys : List Str) : Txt.join a ys = Str.join a ys := PySem.StrLaws.glued_eq_join a ys
theorem strOk_join {a : Str} (ha : PySem.PyData.strOk a = true) : ∀ {ys : List Str}, (∀ y ∈ ys, PySem.PyData.strOk y = true) → PySem.PyData.strOk (Str.join a ys) = true
  | [], _ => strOk_empty
  | [x], h => h x List.mem_cons_self
  | x :: y :: r, h => by
    show PySem.PyData.strOk (x ++ a ++ Str.join a (y :: r)) = true
    exact strOk_append (strOk_append (h x List.mem_cons_self) ha) (strOk_join ha fun z hz => h z (List.mem_cons_of_mem _ hz))
theorem met_s {g : Vl → GL} {RR : V → List V → Hp → VK → Prop} (h2 : ∀ ρ τ S H z xs vs v S' Q, StR K ρ τ S H → PySem.PyData.strOk z = true → VrL K H ρ τ xs vs → g (.d (.str z)) vs S = .ok v S' → Cont K ρ τ H S' v Q → RR (.str z) xs H Q)
    (h : LE K (sMetS g fo [fe]) σ H Q) : tM1 RR (LE K fo) (LE K fe) σ H Q := by
  obtain ⟨Γ, S, ρ, τ, v, S', hS, hE, hf, hc⟩ := h
  obtain ⟨va, S1, e1, hf⟩ := R.bind_ok hf
  refine ⟨Γ, S, ρ, τ, va, S1, hS, hE, e1, fun ρ1 H1 x x1 hS1 q1 => ?_⟩
  split at hf
  · rename_i z
    obtain ⟨vs, S2, e2, hf⟩ := R.bind_ok hf
    obtain ⟨w, S3, e3, e2⟩ := R.bind_ok e2
    cases e2
    cases (show Rp _ _ _ _ _ from q1) with
    | str _ ok =>
      refine ⟨⟨z, rfl⟩, Γ, S1, ρ1, τ, w, _, hS1, hE.ext x1, e3, fun ρ2 H2 y x2 hS2 q2 => ?_⟩
      exact h2 ρ2 τ _ H2 z [y] [w] v S' Q hS2 ok (.cons q2 .nil) hf fun ρ3 H3 u x3 hS3 q3 => hc ρ3 H3 u ((x1.trans x2).trans x3) hS3 q3
  · cases hf
theorem mt_joinD (ρ τ S H z xs vs v S' Q) (hS : StR K ρ τ S H) (hz : PySem.PyData.strOk z = true) (hv : VrL K H ρ τ xs vs) (hg : gJoin (.d (.str z)) vs S = .ok v S') (hc : Cont K ρ τ H S' v Q) :
    ∃ a p, ∃ ys : List Str, V.str z = .str a ∧ xs = [.ref p] ∧ (SqL K H p (ys.map V.str) ∨ SqT K H p (ys.map V.str)) ∧ (ys.map (·.length)).sum + ys.length * a.length ≤ 16777216 ∧ Q (.str (Txt.join a ys)) H := by
  simp only [gJoin] at hg
  split at hg
  · rename_i w
    obtain ⟨x, rfl, hx⟩ := hv.one rfl
    split at hg
    · rename_i ds es
      split at hg
      · rename_i ys ey
        split at hg
        · rename_i hl
          cases hg
          obtain ⟨p, zs, rfl, h3, h4⟩ := sq_l hS hx es
          obtain ⟨rfl, h5⟩ := strs_rp h4 ey
          exact ⟨z, p, ys, rfl, rfl, .inl h3, hl, by rw [txt_join]; exact hc ρ H _ (Ext.refl hS) hS (show Rp _ _ _ _ _ from .str _ (strOk_join hz h5))⟩
        · cases hg
      · cases hg
    · rename_i ds es
      split at hg
      · rename_i ys ey
        split at hg
        · rename_i hl
          cases hg
          obtain ⟨_, p, zs, rfl, h3, h4⟩ := sq_t hx es
          obtain ⟨rfl, h5⟩ := strs_rp h4 ey
          exact ⟨z, p, ys, rfl, rfl, .inr h3, hl, by rw [txt_join]; exact hc ρ H _ (Ext.refl hS) hS (show Rp _ _ _ _ _ from .str _ (strOk_join hz h5))⟩
        · cases hg
      · cases hg
    · cases hg
  · cases hg
theorem mt_startsD (ρ τ S H z xs vs v S' Q) (hS : StR K ρ τ S H) (hz : PySem.PyData.strOk z = true) (hv : VrL K H ρ τ xs vs) (hg : gStarts (.d (.str z)) vs S = .ok v S') (hc : Cont K ρ τ H S' v Q) :
    ∃ a b, V.str z = .str a ∧ xs = [.str b] ∧ Q (.bl (Txt.startswith a b)) H := by
  simp only [gStarts] at hg
  split at hg
  · rename_i b
    cases hg
    obtain ⟨x, rfl, hx⟩ := hv.one rfl
    cases (show Rp _ _ _ _ _ from hx)
    exact ⟨z, b, rfl, rfl, hc ρ H _ (Ext.refl hS) hS (show Rp _ _ _ _ _ from .bl _)⟩
  · cases hg
/-- the written forms -/
structure M1 (X : Cx) (o e : Expr) (name : Str) (apos cpos : Pos) : Prop where
  base : attributeBase o name X.env (eval o X.env) = eval o X.env
  few : ((backTo cpos (starEach [e] X.env)).all (fun x => !x.1) && (backToKw cpos (keywordEach [] X.env)).all (fun x => x.1.isSome) && decide ([e].length + ([] : List Keyword).length + (if ([] : List Keyword).isEmpty then 0 else 1) < 30)) = true
  line : (apos.endLine == cpos.line) = true
  st : starEach [e] X.env = (false, eval e X.env) :: starEach [] X.env
  plain : (backTo cpos (starEach [] X.env)).any (·.1) = false
theorem le_append (f : M1 X o e "append" apos cpos) (ho : PE X o (LE X.K fo)) (he : PE X e (LE X.K fe)) : PE X (.Call (.Attribute o "append" apos) [e] [] cpos) (LE X.K (sMetO gAppend fo [fe])) :=
  (pe_bm PySem.F.plainAttrs_list PySem.F.slot_list_append PySem.F.type_list_append mt_append ho (la_cons he la_nil f.st) f.base f.few f.line f.st f.plain).weak fun σ H Q h => met_o mt_app h
theorem le_extend (f : M1 X o e "extend" apos cpos) (ho : PE X o (LE X.K fo)) (he : PE X e (LE X.K fe)) : PE X (.Call (.Attribute o "extend" apos) [e] [] cpos) (LE X.K (sMetO gExtend fo [fe])) :=
  (pe_bm PySem.F.plainAttrs_list PySem.F.slot_list_extend PySem.F.type_list_extend mt_extend ho (la_cons he la_nil f.st) f.base f.few f.line f.st f.plain).weak fun σ H Q h => met_o mt_ext h
theorem le_pop1 (f : M1 X o e "pop" apos cpos) (ho : PE X o (LE X.K fo)) (he : PE X e (LE X.K fe)) : PE X (.Call (.Attribute o "pop" apos) [e] [] cpos) (LE X.K (sMetO gPop1 fo [fe])) :=
  (pe_bm PySem.F.plainAttrs_list PySem.F.slot_list_pop PySem.F.type_list_pop mt_popAt ho (la_cons he la_nil f.st) f.base f.few f.line f.st f.plain).weak fun σ H Q h => met_o mt_pop1' h
theorem le_pop0 (hbase : attributeBase o "pop" X.env (eval o X.env) = eval o X.env) (hline : (apos.endLine == cpos.line) = true) (ho : PE X o (LE X.K fo)) : PE X (.Call (.Attribute o "pop" apos) [] [] cpos) (LE X.K (sMetO gPop0 fo [])) :=
  (pe_bm0 PySem.F.plainAttrs_list PySem.F.slot_list_pop PySem.F.type_list_pop mt_pop ho hbase hline).weak fun σ H Q h => by
    obtain ⟨Γ, S, ρ, τ, va, S1, hS, hE, e1, h⟩ := met_o mt_pop0' h
    refine ⟨Γ, S, ρ, τ, va, S1, hS, hE, e1, fun ρ1 H1 x x1 hS1 q1 => ?_⟩
    obtain ⟨ht, Γ', S', ρ', τ', vs, S'', hS', hE', e2, h⟩ := h ρ1 H1 x x1 hS1 q1
    cases e2
    exact ⟨ht, h ρ' H1 [] (Ext.refl hS') hS' .nil⟩
theorem le_join (f : M1 X o e "join" apos cpos) (ho : PE X o (LE X.K fo)) (he : PE X e (LE X.K fe)) : PE X (.Call (.Attribute o "join" apos) [e] [] cpos) (LE X.K (sMetS gJoin fo [fe])) :=
  (pe_join ho he (by rw [f.st]; rfl) f.base f.line).weak fun σ H Q h => met_s mt_joinD h
theorem le_starts (f : M1 X o e "startswith" apos cpos) (ho : PE X o (LE X.K fo)) (he : PE X e (LE X.K fe)) : PE X (.Call (.Attribute o "startswith" apos) [e] [] cpos) (LE X.K (sMetS gStarts fo [fe])) :=
  (pe_m1 PySem.F.slot_str_startswith PySem.F.type_str_startswith mt_startswith ho he (by rw [f.st]; rfl) f.base f.line).weak fun σ H Q h => met_s mt_startsD h
end
end L2.Pv

set_option Elab.async false
set_option linter.all false
set_option maxRecDepth 100000
namespace L2.Pv
open PySem PySem.Spec PyProof.Rows L2

/-! ### more operations: lists of the store added, lists made to be changed, texts split -/
def lsV (S : Sto) : Vl → Option (List PyData)
  | .d (.list ds) => some ds
  | .o n => lstOf S n
  | _ => none
def addL (S : Sto) (x y : Option (List PyData)) : R Vl := match x with
  | some x => match y with
    | some y => if x.length + y.length ≤ SZ then .ok (.d (.list (x ++ y))) S else .bad
    | none => .bad
  | none => .bad
def gAdd : G2 := fun a b S => match a with
  | .d x => match b with
    | .d y => lft S (dAdd x y)
    | b => addL S (lsV S (.d x)) (lsV S b)
  | a => addL S (lsV S a) (lsV S b)
section
variable {X : Cx} {pins : List (Addr × Obj)} {σ : L2.St} {H : Hp} {s : Shared} {ρ τ : List Addr} {S : Sto} {Q : VK} {K : PySem.W.Frag}
theorem fin_lstK (hS : StR K ρ τ S H) {xs : List V} {ds : List PyData} (q : RpL K H (ρ ++ τ) xs ds) (hc : Cont K ρ τ H S (.d (.list ds)) Q) : ∀ p, H p = none → Q (.ref p) (upd H p (.lst xs)) := fun p hp => hc ρ _ _ (hS.fresh hp).2 (hS.fresh hp).1 (lstNew hS hp q)
theorem ls_rp (hS : StR K ρ τ S H) {v : Vl} {x : V} {ds : List PyData} (h : Vr K H ρ τ x v) (e : lsV S v = some ds) : ∃ a xs, x = .ref a ∧ H a = some (.lst xs) ∧ RpL K H (ρ ++ τ) xs ds := by
  unfold lsV at e
  split at e
  · cases e
    cases (show Rp _ _ _ _ _ from h) with
    | lst ta qa => exact ⟨_, _, rfl, ta.1, qa⟩
  · obtain ⟨a, ha, rfl⟩ := h
    obtain ⟨xs, h1, h2⟩ := hS.lstAt ha e
    exact ⟨a, xs, rfl, h1, h2⟩
  · cases e
theorem addL_ok {x y : V} {va vb r : Vl} {S' : Sto} (hS : StR K ρ τ S H) (ha : Vr K H ρ τ x va) (hb : Vr K H ρ τ y vb) (h : addL S (lsV S va) (lsV S vb) = .ok r S') (hc : Cont K ρ τ H S' r Q) : rCat x y H Q := by
  unfold addL at h
  split at h
  · rename_i xs ea
    split at h
    · rename_i ys eb
      split at h
      · rename_i hz
        cases h
        obtain ⟨a, vs, rfl, h1, h2⟩ := ls_rp hS ha ea
        obtain ⟨b, us, rfl, h3, h4⟩ := ls_rp hS hb eb
        exact ⟨_, _, _, _, rfl, rfl, h1, h3, by rw [h2.length, h4.length, ← SZ_eq]; exact hz, fin_lstK hS (h2.append h4) hc⟩
      · cases h
    · cases h
  · cases h
theorem opd_gAdd : OpR X (binaryOp .Add) (rD X.K gAdd) := by
  intro pins s σ H x y v u Q I rx ry h
  obtain ⟨ρ, τ, S, va, vb, r, S', hS, ha, hb, hg, hc⟩ := h
  cases va with
  | d a =>
    cases vb with
    | d b => exact opd_add pins s σ H x y v u Q I rx ry ⟨ρ, τ, S, .d a, .d b, r, S', hS, ha, hb, hg, hc⟩
    | o n => exact op_cat pins s σ H x y v u Q I rx ry (addL_ok hS ha hb hg hc)
    | k ds => exact op_cat pins s σ H x y v u Q I rx ry (addL_ok hS ha hb hg hc)
  | o n => exact op_cat pins s σ H x y v u Q I rx ry (addL_ok hS ha hb hg hc)
  | k ds => exact op_cat pins s σ H x y v u Q I rx ry (addL_ok hS ha hb hg hc)
/-- a list of the store is made -/
theorem fin_new (hS : StR K ρ τ S H) {xs : List V} {ds : List PyData} (q : RpL K H (ρ ++ τ) xs ds) (hc : Cont K ρ τ H (S ++ [.lst ds]) (.o S.length) Q) : ∀ p, H p = none → Q (.ref p) (upd H p (.lst xs)) := fun p hp => by
  have hn := hS.notin hp
  have q2 : RpL K (upd H p (.lst xs)) ((ρ ++ [p]) ++ τ) xs ds := RpL.cov ⟨fun b u hb _ => by rw [upd_ne (ne_of_none hb hp)]; exact hb, fun b u hb hm hm2 => by
    rcases List.mem_append.mp hm2 with hm2 | hm2
    · rcases List.mem_append.mp hm2 with hm2 | hm2
      · exact hm (List.mem_append_left _ hm2)
      · have e2 : b = p := by simpa using hm2
        subst e2
        rw [hp] at hb
        cases hb
    · exact hm (List.mem_append_right _ hm2)⟩ _ _ q
  obtain ⟨h1, h2⟩ := hS.alloc (u := .lst ds) hp ⟨xs, upd_same, q2⟩
  refine hc _ _ _ h2 h1 ⟨p, ?_, rfl⟩
  rw [← hS.len, List.getElem?_append_right (Nat.le_refl _), Nat.sub_self]
  rfl
def gListN : G1 := fun a S => match sqOf S a with
  | some (.l ds) => .ok (.o S.length) (S ++ [.lst ds])
  | some (.t ds) => .ok (.o S.length) (S ++ [.lst ds])
  | none => .bad
theorem cd_listN : CallR X (.type "list") (rDL X.K (arg1 gListN)) := by
  intro pins s σ H xs us Q I rx h
  obtain ⟨x, ρ, τ, S, va, r, S', rfl, hS, ha, hg, hc⟩ := rDL1 h
  unfold gListN at hg
  split at hg
  · rename_i ds e
    cases hg
    obtain ⟨a, xs, rfl, h2, h3⟩ := sq_l hS ha e
    exact call_list_of pins s σ H _ us Q I rx ⟨_, _, rfl, .inl h2, fin_new hS h3 hc⟩
  · rename_i ds e
    cases hg
    obtain ⟨_, a, xs, rfl, h2, h3⟩ := sq_t ha e
    exact call_list_of pins s σ H _ us Q I rx ⟨_, _, rfl, .inr h2, fin_new hS h3 hc⟩
  · cases hg
def gSplit (x : Vl) : GL := fun vs S => match x with
  | .d (.str a) => match vs with
    | [.d (.str b)] => if (b.length == 0) = false ∧ a.length + 2 ≤ SZ then .ok (.d (.list ((Txt.split a b).map .str))) S else .bad
    | _ => .bad
  | _ => .bad
theorem join_sub (sep : Str) : ∀ (ts : List Str) (t : Str), t ∈ ts → ∀ c ∈ t.cps.toList, c ∈ (Str.join sep ts).cps.toList
  | [x], t, h, c, hc => by
    rw [List.mem_singleton.mp h] at hc
    exact hc
  | x :: y :: r, t, h, c, hc => by
    have e : (Str.join sep (x :: y :: r)).cps.toList = x.cps.toList ++ sep.cps.toList ++ (Str.join sep (y :: r)).cps.toList := by
      show ((x.cps ++ sep.cps) ++ (Str.join sep (y :: r)).cps).toList = _
      simp
    rw [e]
    rcases List.mem_cons.mp h with rfl | h
    · exact List.mem_append_left _ (List.mem_append_left _ hc)
    · exact List.mem_append_right _ (join_sub sep (y :: r) t h c hc)
theorem split_ok {a b : Str} (ha : PySem.PyData.strOk a = true) : ∀ t ∈ Txt.split a b, PySem.PyData.strOk t = true := fun t ht =>
  strOk_sub ha fun c hc => by
    have h := join_sub b (Txt.split a b) t ht c hc
    rwa [PySem.StrLaws.join_split] at h
theorem strs_rpL {m : List Addr} : ∀ {ys : List Str}, (∀ y ∈ ys, PySem.PyData.strOk y = true) → RpL K H m (ys.map V.str) (ys.map PyData.str)
  | [], _ => .nil
  | y :: r, h => .cons (.str y (h y List.mem_cons_self)) (strs_rpL fun z hz => h z (List.mem_cons_of_mem _ hz))
theorem mt_splitD (ρ τ S H z xs vs v S' Q) (hS : StR K ρ τ S H) (hz : PySem.PyData.strOk z = true) (hv : VrL K H ρ τ xs vs) (hg : gSplit (.d (.str z)) vs S = .ok v S') (hc : Cont K ρ τ H S' v Q) :
    ∃ a b, V.str z = .str a ∧ xs = [.str b] ∧ (b.length == 0) = false ∧ a.length + 2 ≤ sizeLine ∧ rNewStrs (Txt.split a b) H Q := by
  simp only [gSplit] at hg
  split at hg
  · rename_i b
    obtain ⟨x, rfl, hx⟩ := hv.one rfl
    split at hg
    · rename_i hl
      cases hg
      cases (show Rp _ _ _ _ _ from hx) with
      | str _ ob => exact ⟨z, b, rfl, rfl, hl.1, by rw [← SZ_eq]; exact hl.2, fin_lstK hS (strs_rpL (split_ok hz)) hc⟩
    · cases hg
  · cases hg
theorem le_split {o e : Expr} {apos cpos : Pos} {fo fe : SE} (f : M1 X o e "split" apos cpos) (ho : PE X o (LE X.K fo)) (he : PE X e (LE X.K fe)) : PE X (.Call (.Attribute o "split" apos) [e] [] cpos) (LE X.K (sMetS gSplit fo [fe])) :=
  (pe_split ho he (by rw [f.st]; rfl) f.base f.line).weak fun σ H Q h => met_s mt_splitD h
/-- xs.index(x): lists -/
def sMetL (g : Vl → GL) (a : SE) (fs : List SE) : SE := fun Γ S => (a Γ S).bind fun x S1 => match lsV S1 x with
  | some _ => (sArgs fs Γ S1).bind fun vs S2 => g x vs S2
  | none => .bad
def gIndex (x : Vl) : GL := fun vs S => match lsV S x with
  | some ds => match vs with
    | [v] => match rdV S v with
      | some d => match ds.findIdx? (fun z => PyData.eqv z d) with
        | some j => if PyData.depth (.list ds) ≤ 64 ∧ d.depth ≤ 64 then .ok (.d (.int (j : Nat))) S else .bad
        | none => .bad
      | none => .bad
    | _ => .bad
  | none => .bad
theorem shaped_of {m : List Addr} {x : V} {d : PyData} (h : Rp K H m x d) (hd : d.depth ≤ 64) : SeqAt.shaped d = true := by
  unfold SeqAt.shaped
  rw [Rp.lay _ _ h, decide_eq_true hd]
  rfl
theorem ls_rp0 (hS : StR K ρ τ S H) {v : Vl} {x : V} {ds : List PyData} (h : Vr K H ρ τ x v) (e : lsV S v = some ds) : Rp K H [] x (.list ds) := by
  obtain ⟨a, xs, rfl, h1, h2⟩ := ls_rp hS h e
  exact .lst ⟨h1, fun z => by cases z⟩ (RpL.cov (Cov.less (fun a z => by cases z)) _ _ h2)
theorem mt_indexV {vs : List Vl} {xs : List V} {v r : Vl} {x : V} {S' : Sto} (hS : StR K ρ τ S H) (hx : Vr K H ρ τ x v) (hv : VrL K H ρ τ xs vs) (hg : gIndex v vs S = .ok r S') (hc : Cont K ρ τ H S' r Q) : rIndexD K x xs H Q := by
  unfold gIndex at hg
  split at hg
  · rename_i ds el
    split at hg
    · rename_i w
      obtain ⟨y, rfl, hy⟩ := hv.one rfl
      split at hg
      · rename_i d ed
        split at hg
        · rename_i j ej
          split at hg
          · rename_i hz
            cases hg
            have h1 := ls_rp0 hS hx el
            have h2 := rdV_rp hS hy ed
            obtain ⟨a, zs, rfl, h3, h4⟩ := ls_rp hS hx el
            obtain ⟨f1, f2, f3⟩ := List.findIdx?_eq_some_iff_getElem.mp ej
            refine ⟨a, y, d, ds, j, ds[j], rfl, rfl, Rp.dp _ _ h1, Rp.dp _ _ h2, shaped_of h1 hz.1, shaped_of h2 hz.2, List.getElem?_eq_getElem f1, f2, fun m z' hm hz' => ?_, hc ρ H _ (Ext.refl hS) hS (show Rp _ _ _ _ _ from .int _)⟩
            have hml : m < ds.length := Nat.lt_trans hm f1
            rw [List.getElem?_eq_getElem hml] at hz'
            cases hz'
            have := f3 m hm
            simpa using this
          · cases hg
        · cases hg
      · cases hg
    · cases hg
  · cases hg
theorem le_index {o e : Expr} {apos cpos : Pos} {fo fe : SE} (hu : X.A.units + 65 < cLine) (f : M1 X o e "index" apos cpos) (ho : PE X o (LE X.K fo)) (he : PE X e (LE X.K fe)) : PE X (.Call (.Attribute o "index" apos) [e] [] cpos) (LE X.K (sMetL gIndex fo [fe])) :=
  (pe_bm PySem.F.plainAttrs_list PySem.F.slot_list_index PySem.F.type_list_index (mt_indexD hu) ho (la_cons he la_nil f.st) f.base f.few f.line f.st f.plain).weak fun σ H Q h => by
    obtain ⟨Γ, S, ρ, τ, v, S', hS, hE, hf, hc⟩ := h
    obtain ⟨va, S1, e1, hf⟩ := R.bind_ok hf
    refine ⟨Γ, S, ρ, τ, va, S1, hS, hE, e1, fun ρ1 H1 x x1 hS1 q1 => ?_⟩
    split at hf
    · rename_i ds el
      obtain ⟨vs, S2, e2, hf⟩ := R.bind_ok hf
      refine ⟨?_, Γ, S1, ρ1, τ, vs, S2, hS1, hE.ext x1, e2, fun ρ2 H2 ys x2 hS2 q2 => ?_⟩
      · obtain ⟨a, zs, rfl, h3, h4⟩ := ls_rp hS1 q1 el
        exact .inl ⟨rfl, zs, .inl (.inl h3)⟩
      · exact mt_indexV hS2 (q1.ext x2) q2 hf fun ρ3 H3 u x3 hS3 q3 => hc ρ3 H3 u ((x1.trans x2).trans x3) hS3 q3
    · cases hf
/-- C.index(x), C a tuple of texts that the module holds -/
def gIndexC (ys : List Str) : G1 := fun v S => match v with
  | .d (.str z) => match ys.findIdx? (fun y => y == z) with
    | some j => .ok (.d (.int (j : Nat))) S
    | none => .bad
  | _ => .bad
theorem le_indexC {x : Str} {p apos cpos : Pos} {e : Expr} {fe : SE} {ds : List PyData} {ys : List Str} {u : Value} {v : V} (hg : Gl X x) (hm : X.mg x = some u) (hv : RelV v u) (hd : Rp X.K HN [] v (.tuple ds)) (hs : strsOf ds = some ys) (o1 : (x == ("__debug__" : Str)) = false) (f : M1 X (.Name x p) e "index" apos cpos) (he : PE X e (LE X.K fe)) : PE X (.Call (.Attribute (.Name x p) "index" apos) [e] [] cpos) (LE X.K (sUn (gIndexC ys) fe)) := by
  cases hd with
  | tup ta qa =>
    obtain ⟨rfl, _⟩ := strs_rp qa hs
    rcases ta with ⟨h | ⟨o, h⟩, _⟩ | ⟨o, its, n, h1, h2, h3, h4, h5, h6⟩
    · cases h
    · cases h
    · refine (pe_bm PySem.F.plainAttrs_tuple PySem.F.slot_tuple_index PySem.F.type_tuple_index mt_tup_index (pe_glob hg hm hv o1) (la_cons he la_nil f.st) f.base f.few f.line f.st f.plain).weak fun σ H Q h => ?_
      refine ⟨.inr (.inl ⟨rfl, o, h1, h2, h3⟩), ?_⟩
      obtain ⟨Γ, S, ρ, τ, v, S', hS, hE, hf, hc⟩ := h
      obtain ⟨va, S1, e1, hf⟩ := R.bind_ok hf
      refine ⟨Γ, S, ρ, τ, [va], S1, hS, hE, by simp only [sArgs, R.bind, e1], fun ρ1 H1 xs x1 hS1 q1 => ?_⟩
      obtain ⟨y, rfl, hy⟩ := VrL.one q1 rfl
      unfold gIndexC at hf
      split at hf
      · rename_i z
        split at hf
        · rename_i j ej
          cases hf
          obtain ⟨f1, f2, f3⟩ := List.findIdx?_eq_some_iff_getElem.mp ej
          cases (show Rp _ _ _ _ _ from hy) with
          | str _ ok =>
            refine ⟨_, ys, z, j, rfl, rfl, .inr ⟨o, its, n, h1, h2, h4, h5, h6⟩, ?_, fun m hm hz => ?_, hc ρ1 H1 _ x1 hS1 (show Rp _ _ _ _ _ from .int _)⟩
            · rw [List.getElem?_eq_getElem f1, eq_of_beq f2]
            · have hml : m < ys.length := Nat.lt_trans hm f1
              rw [List.getElem?_eq_getElem hml] at hz
              have := f3 m hm
              rw [Option.some.inj hz] at this
              exact this (beq_self_eq_true _)
        · cases hf
      · cases hf
end
end L2.Pv

set_option Elab.async false
set_option linter.all false
set_option maxRecDepth 100000
/-! Pv: a tuple, a list, from the end: t[::-1] -/
namespace PySem
open PySem PySem.Spec PyProof.Rows L2 HT
section
variable {prog : Program} {w : World} {A : Around} {E : Value → Shared → Prop} {s : Shared}
theorem pv_back_parts {sl : Addr} {vl vu vs : Value} {n : Nat} {Q : Int × Int × Nat → Shared → Prop} (hs : s.heap.IsSliceOf sl vl vu vs) (pl : IsPart vl none) (pu : IsPart vu none) (ps : IsPart vs (some (-1)))
    (h : Q ((n : Int) - 1, -1, n) s) : wpAny (model prog w) A (Builtin.Slice.sliceApplied (.ref sl) (pure (n : Int))) Q E s := by
  obtain ⟨ob, hob, hcl, hda⟩ := id hs
  unfold Builtin.Slice.sliceApplied Builtin.Slice.sliceFields
  refine wpAny_bind (wpAny_bind (wpAny_field hob hda (x := vl) rfl (wpAny_bind (wpAny_field hob hda (x := vu) rfl (wpAny_bind (wpAny_field hob hda (x := vs) rfl (wpAny_pure ?_)))))))
  refine wpAny_bind (slicePart_ ps ?_)
  show wpAny _ _ (if ((-1 : Int) == 0) = true then _ else _) _ _ s
  rw [if_neg (by decide)]
  refine wpAny_bind (slicePart_ pl (wpAny_bind (slicePart_ pu (wpAny_bind (wpAny_pure ?_)))))
  show wpAny _ _ (pure ((n : Int) - 1, (-1 : Int), Builtin.Slice.slicePlaces ((n : Int) - 1) (-1) (-1))) _ _ s
  have e : Builtin.Slice.slicePlaces ((n : Int) - 1) (-1) (-1) = n := by
    unfold Builtin.Slice.slicePlaces
    rw [if_neg (by decide)]
    by_cases hn : (n : Int) - 1 > -1
    · rw [if_pos hn, show (-(-1) : Int) = 1 from rfl, Int.ediv_one]
      omega
    · rw [if_neg hn]
      omega
  rw [e]
  exact wpAny_pure h
theorem pv_back_items (xs : Array Value) : ((List.range xs.size).filterMap fun (m : Nat) => xs[((xs.size : Int) - 1 + (m : Int) * -1).toNat]?) = xs.toList.reverse := by
  have gen : ∀ k, k ≤ xs.size → ((List.range k).filterMap fun (m : Nat) => xs[((xs.size : Int) - 1 + (m : Int) * -1).toNat]?) = xs.toList.reverse.take k := by
    intro k
    induction k with
    | zero => intro _; rfl
    | succ k ih =>
      intro hk
      have hk' : k < xs.size := hk
      rw [List.range_succ, List.filterMap_append, ih (by omega)]
      have e1 : ((xs.size : Int) - 1 + (k : Int) * -1).toNat = xs.size - 1 - k := by omega
      have e2 : xs[xs.size - 1 - k]? = some xs[xs.size - 1 - k] := Array.getElem?_eq_getElem (by omega)
      have e3 : xs.toList.reverse[k]? = some xs[xs.size - 1 - k] := by
        rw [List.getElem?_reverse (by simpa using hk')]
        simp
      rw [List.take_add_one, e3]
      simp only [List.filterMap_cons, List.filterMap_nil, e1, e2, Option.toList]
  rw [gen xs.size (Nat.le_refl _), List.take_of_length_le (by simp)]
theorem pv_back_get {t sl : Addr} {items : Array Value} {vl vu vs : Value} {Q : Value → Shared → Prop} (ht : IsTup s.heap t items) (hs : s.heap.IsSliceOf sl vl vu vs) (pl : IsPart vl none) (pu : IsPart vu none) (ps : IsPart vs (some (-1)))
    (h : Q (.ref s.heap.objs.size) { s with heap := s.heap.push { cls := .type "tuple", data := .seq items.toList.reverse.toArray } })
    (hsz : items.size ≤ sizeLine) : wpAny (model prog w) A (getItem (.ref t) (.ref sl)) Q E s := by
  have hfit : sizeOk (.seq items.toList.reverse.toArray) := by
    show items.toList.reverse.toArray.size ≤ sizeLine
    rw [List.size_toArray, List.length_reverse, Array.length_toList]
    exact hsz
  obtain ⟨ob, hob, hcl, hda⟩ := id hs
  have hty : s.TypeIs (.ref sl) "slice" := ⟨ob, hob, hcl⟩
  unfold getItem
  try with_reducible refine wpAny_holding ?_
  first | refine wpAny_bind (wpAny_pure ?_) | skip
  refine wpAny_bind (wpAny_sequenceKey ht.typeIs (by decide) ?_)
  refine wpAny_bind (wpAny_callSpecial?_slot (name := Str.ofString "__getitem__") ht.typeIs PyProof.Rows.slot_tuple_getitem (wpAny_call_entry PyProof.Rows.slot_tuple_getitem ht.typeIs entry_tuple_getitem ?_ (args_tuple_getitem _ _)))
  show wpAny _ _ (Builtin.Tuple.tupleItemsOf (.ref t) >>= _) _ _ s
  refine wpAny_bind (tupleItemsOf_ ht ?_)
  refine wpAny_bind (wpAny_typeOf hty ?_)
  rw [if_pos (by decide)]
  refine wpAny_bind (pv_back_parts hs pl pu ps ?_)
  have hno : ¬ (((items.size : Int) - 1 == 0 && (-1 : Int) == 1 && items.size == items.size) = true) := by
    intro q
    rw [Bool.and_eq_true, Bool.and_eq_true] at q
    exact absurd q.1.2 (by decide)
  show wpAny _ _ (if ((items.size : Int) - 1 == 0 && (-1 : Int) == 1 && items.size == items.size) = true then _ else _) _ _ s
  rw [if_neg hno, pv_back_items]
  first
    | exact wpAny_bind (m := Builtin.Tuple.tupleExact _) (wpAny_newObj_type (wpAny_pure ⟨_, rfl, wpAny_pure h⟩) hfit)
    | exact wpAny_bind (m := Builtin.Tuple.tupleExact _) (wpAny_newObj_type (wpAny_bind (wpAny_pure (wpAny_pure ⟨_, rfl, wpAny_pure h⟩))) hfit)
    | exact wpAny_bind (wpAny_bind (m := Builtin.Tuple.tupleExact _) (wpAny_newObj_type (wpAny_pure (wpAny_pure ⟨_, rfl, wpAny_pure h⟩)) hfit))
    | exact wpAny_bind (wpAny_bind (m := Builtin.Tuple.tupleExact _) (wpAny_newObj_type (wpAny_pure ⟨_, rfl, wpAny_pure h⟩) hfit))
end
end PySem
namespace L2
open PySem PySem.Spec PyProof.Rows L2
/-- t[::-1] -/
def tBack (K : PySem.W.Frag) (te : TE) : TE := fun σ H Q => te σ H fun x H1 => ∃ a xs, x = .ref a ∧ SqT K H1 a xs ∧ ∀ p, H1 p = none → Q (.ref p) (upd H1 p (.tup xs.reverse))
theorem pe_back {X : Cx} {e : Expr} {te : TE} {k : Nat} {p1 p2 p3 pos : Pos} (he : PE X e te) : PE X (.Subscript e (.Slice none none (some (.UnaryOp .USub (.Constant (.int 1) k p1) p2)) p3) pos) (tBack X.K te) := by
  refine ⟨fun pins s σ H Q I hh => ?_⟩
  refine Subscript_ (thn (he.run pins s σ H _ I hh) fun v w1 ⟨x, H1, I1, r1, g1⟩ => ?_)
  obtain ⟨a, xs, rfl, hx, g⟩ := g1
  cases r1
  have hstep : PO X (some (.UnaryOp .USub (.Constant (.int 1) k p1) p2)) (tPart (tUn (rU fun i => .int (-i)) (tC (.int 1)))) := po_some (pe_un un_neg pe_int)
  refine wpAny_Slice (thn (po_none.run pins w1 σ H1 (fun o H2 => o = none ∧ H2 = H1) I1 ⟨rfl, rfl⟩) fun vl w2 ⟨l, H2, I2, pl, el, e2⟩ => ?_)
  subst el e2
  refine thn (po_none.run pins w2 σ H2 (fun o H3 => o = none ∧ H3 = H2) I2 ⟨rfl, rfl⟩) fun vu w3 ⟨u, H3, I3, pu, eu, e3⟩ => ?_
  subst eu e3
  refine thn (hstep.run pins w3 σ H3 (fun o H4 => o = some (-1) ∧ H4 = H3) I3 ⟨1, rfl, -1, rfl, rfl, rfl⟩) fun vs w4 ⟨o, H4, I4, ps, eo, e4⟩ => ?_
  subst eo e4
  have J : Inv X pins σ H4 { w4 with heap := w4.heap.push { cls := .type "slice", data := .fields #[vl, vu, vs] } } := I4.kept (t' := w4.toks) fun b ob q => Heap.get?_push_of_some _ q
  obtain ⟨its, r, ht, hz⟩ := J.tuple hx
  have hlen := r.length
  show wpAny (model X.prog X.w) X.A (subscriptTail e (.Slice none none (some (.UnaryOp .USub (.Constant (.int 1) k p1) p2)) p3) (.ref a) (.ref w4.heap.objs.size)) (EP X pins σ Q) X.xe { w4 with heap := w4.heap.push { cls := .type "slice", data := .fields #[vl, vu, vs] } }
  refine tail_any (ops := [.ref a, .ref w4.heap.objs.size]) ht.typeIs PyProof.Rows.slot_tuple_getitem.lookup ?_ (by with_unfolding_all rfl)
  refine PySem.pv_back_get ht (Heap.IsSliceOf.new _ vl vu vs) pl pu ps ?_ (by rw [List.size_toArray]; omega)
  refine ⟨.ref _, _, J.laid (t' := w4.toks) (o := .tup xs.reverse) (fun b ob q => Heap.get?_push_of_some _ q) (Nat.le_refl _) ?_, rfl, g _ (J.hok.fresh (Nat.le_refl _))⟩
  exact ⟨by rw [List.length_reverse]; exact hz, _, r.reverse, _, Heap.get?_push_size _ rfl, rfl, 0, rfl⟩
end L2

set_option Elab.async false
set_option linter.all false
set_option maxRecDepth 100000
namespace L2.Pv
open PySem PySem.Spec PyProof.Rows L2

/-! ### the written text to its meaning -/
inductive Bi where
  | len | abs | int | max | min | str | ord | list | tuple | all | any | range | enumerate | zip | reversed | isinstance | bool
def biName : Bi → Str
  | .len => "len" | .abs => "abs" | .int => "int" | .max => "max" | .min => "min" | .str => "str" | .ord => "ord" | .list => "list" | .tuple => "tuple" | .all => "all" | .any => "any"
  | .range => "range" | .enumerate => "enumerate" | .zip => "zip" | .reversed => "reversed" | .isinstance => "isinstance" | .bool => "bool"
inductive GE where
  | blt (b : Bi)
  | con (d : PyData)
  | fn (n : Nat)
structure Inf where
  N : List Str
  sc : Scope
  blk : Bool
  G : List (Str × GE)
  new : List Nat

def posKey (p : Pos) : Nat := p.line * 1000 + p.col
def okName (x : Str) : Bool := !(x == ("__debug__" : Str)) && !(x == ("__classdict__" : Str)) && !(x == ("__name__" : Str))
def idxOf (N : List Str) (x : Str) : Option Nat := N.findIdx? (· == x)
def visB (sc : Scope) (x : Str) : Bool := match sc.names.lookup x with
  | some .local => true
  | some .cell => true
  | some .free => true
  | _ => false
def locB (blk : Bool) (sc : Scope) (x : Str) : Bool := match sc.names.lookup x with
  | some .local => true
  | some .cell => !blk
  | _ => false
def glB (sc : Scope) (x : Str) : Bool := match sc.names.lookup x with
  | some .globalImplicit => true
  | _ => false
def notStar : Expr → Bool
  | .Starred _ _ => false
  | _ => true
def notSlice : Expr → Bool
  | .Slice _ _ _ _ => false
  | _ => true
def notSet : Expr → Bool
  | .Set _ _ _ => false
  | _ => true
def notComp : Expr → Bool
  | .ListComp _ _ _ _ => false
  | .SetComp _ _ _ _ => false
  | .DictComp _ _ _ _ _ => false
  | _ => true
def notTuple : Expr → Bool
  | .Tuple _ _ _ => false
  | _ => true
def okBase : Expr → Bool
  | .Call _ [] [] _ => false
  | .Name _ _ => true
  | .Constant _ _ _ => true
  | .Subscript _ _ _ => true
  | .Call _ (_ :: _) _ _ => true
  | .BinOp _ _ _ _ => true
  | .List _ _ => true
  | _ => false
def plainTest : Expr → Bool
  | .Name _ _ => true
  | .Call _ _ _ _ => true
  | .Subscript _ _ _ => true
  | .BinOp _ _ _ _ => true
  | .List _ _ => true
  | .Tuple _ _ _ => true
  | .ListComp _ _ _ _ => true
  | .Constant _ _ _ => true
  | _ => false
section
variable {e a b : Expr} {es : List Expr} {env : PySem.Env}
theorem star_cons (h : notStar e = true) : starEach (e :: es) env = (false, eval e env) :: starEach es env := by cases e <;> first | rfl | cases h
theorem plainIx_of (h : notSlice e = true) : PlainIx e := by cases e <;> first | (intro _ _; rfl) | cases h
theorem noMark (h : notSet e = true) (op : CmpOp) : behindInMarks op e = false := by cases e <;> first | rfl | cases h
theorem noFold (h : notSet e = true) (env : PySem.Env) : ∀ x, foldedSetIterable e env x = pure x := by cases e <;> first | (intro _; rfl) | cases h
theorem swaps_none (h : notComp e = true) (t : Option Expr) (l : Nat) : swapsWith e t l env = pure false := by cases e <;> first | rfl | cases h
theorem swaps_tup (t : Expr) (l : Nat) (h : ∀ x p, t ≠ .Name x p) : swapsWith e (some t) l env = pure false := by
  cases e <;> first
    | rfl
    | (cases t <;> first
        | rfl
        | exact absurd rfl (h _ _))
theorem stores_none (tg : Expr) (h : notTuple e = true) : swappedStores [tg] e env = pure none := by cases tg <;> cases e <;> first | rfl | cases h
theorem stores_none' (tg : Expr) (h : notTuple tg = true) (h2 : ∀ ts p, tg ≠ .List ts p) : swappedStores [tg] e env = pure none := by
  cases tg <;> cases e <;> first | rfl | exact absurd rfl (h2 _ _) | cases h
theorem base_of (name : Str) (h : okBase e = true) : attributeBase e name env (eval e env) = eval e env := by
  cases e with
  | Call f args kws p =>
    cases args with
    | nil => cases kws <;> cases h
    | cons a as => cases f <;> rfl
  | _ => first | rfl | cases h
theorem plain_of (h : plainTest e = true) : ∀ whole, isTrue e env whole = (do let v ← whole; standAt e.pos; holding [v] (truthy v)) := by
  cases e <;> first | (intro _; rfl) | cases h
theorem back_any (pos : Pos) : ∀ {es : List Expr}, es.all notStar = true → (backTo pos (starEach es env)).any (·.1) = false
  | [], _ => rfl
  | e :: es, h => by
    have h' : notStar e = true ∧ es.all notStar = true := by simpa using h
    rw [star_cons h'.1]
    show (false || (backTo pos (starEach es env)).any (·.1)) = false
    rw [back_any pos h'.2]
    rfl
theorem m1_of {X : Cx} {o : Expr} {name : Str} {apos cpos : Pos} (h1 : okBase o = true) (h2 : notStar e = true) (h3 : (apos.endLine == cpos.line) = true) : M1 X o e name apos cpos where
  base := base_of name h1
  few := by
    rw [star_cons h2]
    rfl
  line := h3
  st := star_cons h2
  plain := rfl
theorem idxOf_ok {N : List Str} {x : Str} {i : Nat} (h : idxOf N x = some i) : N[i]? = some x := by
  unfold idxOf at h
  obtain ⟨h1, h2, _⟩ := List.findIdx?_eq_some_iff_getElem.mp h
  rw [List.getElem?_eq_getElem h1]
  simpa using h2
end

/-- what a global name stands for -/
def GOk (X : Cx) (call : Str → GL) (k : Nat) (x : Str) : GE → Prop
  | .blt b => X.mg x = none ∧ x = biName b
  | .con d => ∃ u v, X.mg x = some u ∧ RelV v u ∧ Rp X.K HN [] v d
  | .fn n => ∃ f fd ps, X.mg x = some (.ref f) ∧ PySem.W.keepIn X.K (.ref f) = true ∧ Binds X.K fd ps [] ∧ FnOk X.prog X.w X.K X.mg X.base CX0 k f fd ps (SpD X.K n (call x))
structure Cok (X : Cx) (I : Inf) (call : Str → GL) (k : Nat) : Prop where
  N : X.N = I.N
  nd : X.N.Nodup
  sc : X.env.scope = I.sc
  calm : X.calm = true
  fn : I.blk = false → ∀ x, X.fn x = true
  xe : X.xe = fun _ _ => False
  room : Room k X.A
  glob : ∀ x e, I.G.lookup x = some e → GOk X call k x e
section
variable {X : Cx} {I : Inf} {call : Str → GL} {k : Nat} {x : Str}
theorem vis_of (C : Cok X I call k) (h : visB I.sc x = true) : Vis X.env.scope x := by
  unfold Vis
  rw [C.sc]
  unfold visB at h
  split at h
  · exact .inl (by assumption)
  · exact .inr (.inl (by assumption))
  · exact .inr (.inr (by assumption))
  · cases h
theorem gl_of (C : Cok X I call k) (h : glB I.sc x = true) : Gl X x := by
  show X.env.scope.names.lookup x = _
  rw [C.sc]
  unfold glB at h
  split at h
  · assumption
  · cases h
theorem loc_of (C : Cok X I call k) (h : locB I.blk I.sc x = true) : Loc X.env.scope x ∧ (X.fn x = true ∨ X.env.scope.names.lookup x = some .local) := by
  unfold Loc
  rw [C.sc]
  unfold locB at h
  split at h
  · rename_i e
    exact ⟨.inl e, .inr e⟩
  · rename_i e
    exact ⟨.inr e, .inl (C.fn (by simpa using h) x)⟩
  · cases h
theorem ok_of (h : okName x = true) : (x == ("__debug__" : Str)) = false ∧ (x == ("__classdict__" : Str)) = false ∧ x ≠ "__name__" := by
  unfold okName at h
  simp only [Bool.and_eq_true, Bool.not_eq_true'] at h
  exact ⟨h.1.1, h.1.2, fun z => by rw [z] at h; exact absurd h.2 (by decide +kernel)⟩
end

def constOf : Const → Option PyData
  | .int i => some (.int i)
  | .bool b => some (.bool b)
  | .none => some .none
  | .str x => if PySem.PyData.strOk x = true then some (.str x) else none
  | _ => none
def binG : Operator → Option G2
  | .Add => some gAdd
  | .Sub => some (dat2 dSub)
  | .Mult => some (dat2 dMul)
  | .FloorDiv => some (dat2 dFdiv)
  | .Mod => some (dat2 dMod)
  | .Pow => some (dat2 dPow)
  | _ => none
def cmpG : CmpOp → Option G2
  | .Eq => some (cmp2 dEq)
  | .NotEq => some (cmp2 dNe)
  | .Lt => some (cmp2 dLt)
  | .LtE => some (cmp2 dLe)
  | .Gt => some (cmp2 dGt)
  | .GtE => some (cmp2 dGe)
  | .In => some (cmp2 dIn)
  | .NotIn => some (cmp2 dNotIn)
  | .Is => some (gIsN false)
  | .IsNot => some (gIsN true)
def biG : Bi → Option GL
  | .len => some (arg1 gLen)
  | .abs => some (arg1 (dat1 dAbs))
  | .int => some (arg1 (dat1 dInt))
  | .max => some (arg2 (dat2 dMax))
  | .min => some (arg2 (dat2 dMin))
  | .str => some (arg1 (dat1 dStr))
  | .ord => some (arg1 (dat1 dOrd))
  | .list => some (arg1 gList)
  | .tuple => some (arg1 gTuple)
  | .all => some (arg1 gAll)
  | .any => some (arg1 gAny)
  | _ => none
def biGN (b : Bi) (nw : Bool) : Option GL := match b, nw with
  | .list, true => some (arg1 gListN)
  | b, _ => biG b
def biTy : Bi → Option String
  | .int => some "int"
  | .str => some "str"
  | .list => some "list"
  | .tuple => some "tuple"
  | .bool => some "bool"
  | _ => none
def metG (name : Str) : Option (SE → SE → SE) :=
  if name = ("append" : Str) then some fun fo fe => sMetO gAppend fo [fe] else
  if name = ("extend" : Str) then some fun fo fe => sMetO gExtend fo [fe] else
  if name = ("pop" : Str) then some fun fo fe => sMetO gPop1 fo [fe] else
  if name = ("join" : Str) then some fun fo fe => sMetS gJoin fo [fe] else
  if name = ("startswith" : Str) then some fun fo fe => sMetS gStarts fo [fe] else
  if name = ("split" : Str) then some fun fo fe => sMetS gSplit fo [fe] else none

structure CR where
  e : Option SE
  t : Option ST
def seqM {α β : Type} (f : α → Option β) : List α → Option (List β)
  | [] => some []
  | a :: r => match f a with
    | some b => (seqM f r).map (b :: ·)
    | none => none
def isOwn : NameKind → Bool
  | .local => true
  | .cell => true
  | _ => false
def ownOf (N : List Str) : List (Str × NameKind) → List (Str × Nat)
  | [] => []
  | (n, kd) :: r => match isOwn kd, idxOf N n with
    | true, some i => (n, i) :: ownOf N r
    | _, _ => ownOf N r
def inBlk (I : Inf) (scope : Scope) : Inf := { I with sc := relS scope I.sc, blk := true }
def nmPlace (I : Inf) : Expr → Option Nat
  | .Name x _ => match idxOf I.N x with
    | some i => if locB I.blk I.sc x = true then some i else none
    | none => none
  | _ => none
def tgOf (I : Inf) : Expr → Option (List Nat × Tg)
  | .Name x p => (nmPlace I (.Name x p)).map fun i => ([i], tNm i)
  | .Tuple es _ _ => (seqM (nmPlace I) es).map fun is => (is, tTp is)
  | _ => none
def isTup : Expr → Bool
  | .Tuple _ _ _ => true
  | _ => false
def itOf (rec : Inf → Expr → CR) (I : Inf) (tg e : Expr) : Option SI := match e with
  | .Call (.Name x p) args [] pos =>
    match if glB I.sc x = true then I.G.lookup x else none with
    | some (.blt .range) => match args with
      | [a] => if notStar a = true then (rec I a).e.map sRng1 else none
      | [a, b] => if notStar a = true ∧ notStar b = true then match (rec I a).e, (rec I b).e with
          | some fa, some fb => some (sRng2 fa fb)
          | _, _ => none
        else none
      | _ => none
    | some (.blt .enumerate) => match args with
      | [a] => if notStar a = true ∧ isTup tg = true then (rec I a).e.map sEnum else none
      | _ => none
    | some (.blt .zip) => match args with
      | [a, b] => if (notStar a = true ∧ notStar b = true) ∧ isTup tg = true then match (rec I a).e, (rec I b).e with
          | some fa, some fb => some (sZip fa fb)
          | _, _ => none
        else none
      | _ => none
    | some (.blt .reversed) => match args with
      | [a] => if notStar a = true then (rec I a).e.map sRev else none
      | _ => none
    | _ => (rec I (.Call (.Name x p) args [] pos)).e.map sIter
  | e => (rec I e).e.map sIter
def boolEs (op : BoolOp) : List SE → Option SE
  | [] => none
  | [f] => some f
  | f :: r => match op, boolEs op r with
    | .And, some g => some (sAndV f g)
    | .Or, some g => some (sOrV f g)
    | _, none => none
def boolTs (op : BoolOp) : List ST → Option ST
  | [] => none
  | [f] => some f
  | f :: r => match op, boolTs op r with
    | .And, some g => some (sAnd f g)
    | .Or, some g => some (sOr f g)
    | _, none => none
def partOf (rec : Inf → Expr → CR) (I : Inf) : Option Expr → Option (Option SE)
  | none => some none
  | some e => (rec I e).e.map some
def conT (I : Inf) : Expr → Option (List Str)
  | .Name x _ => if okName x = true then
      match if glB I.sc x = true then I.G.lookup x else none with
      | some (.con (.tuple ds)) => strsOf ds
      | _ => none
    else none
  | _ => none
def exprOf (call : Str → GL) (rec : Inf → Expr → CR) (I : Inf) (e : Expr) : Option SE := match e with
  | .Name x _ => if okName x = true then
      match if visB I.sc x = true then idxOf I.N x else none with
      | some i => some (sVar i)
      | none => match if glB I.sc x = true then I.G.lookup x else none with
        | some (.con d) => some (sCon d)
        | _ => none
    else none
  | .Constant c _ _ => (constOf c).map sCon
  | .BinOp a op b _ => match (rec I a).e, (rec I b).e, binG op with
    | some fa, some fb, some g => some (sBin g fa fb)
    | _, _, _ => none
  | .UnaryOp .USub a _ => (rec I a).e.map (sUn (dat1 dNeg))
  | .UnaryOp .Not a _ => (rec I a).e.map sNotV
  | .Compare a [op] [b] _ => if notSet b = true then match (rec I a).e, (rec I b).e, cmpG op with
      | some fa, some fb, some g => some (sBin g fa fb)
      | _, _, _ => none
    else none
  | .BoolOp op vs _ => match seqM (fun v => (rec I v).e) vs with
    | some fs => boolEs op fs
    | none => none
  | .IfExp c a b _ => match (rec I c).t, (rec I a).e, (rec I b).e with
    | some tc, some fa, some fb => some (sIf tc fa fb)
    | _, _, _ => none
  | .Subscript a (.Slice lo hi none _) _ => match (rec I a).e, partOf rec I lo, partOf rec I hi with
    | some fa, some fl, some fh => some (sSl fa fl fh)
    | _, _, _ => none
  | .Subscript a b _ => if notSlice b = true then match (rec I a).e, (rec I b).e with
      | some fa, some fb => some (sBin gIx fa fb)
      | _, _ => none
    else none
  | .Tuple es _ _ => if es.all notStar = true then (seqM (fun v => (rec I v).e) es).map (sCall gTup) else none
  | .List es pos => if es.all notStar = true then (seqM (fun v => (rec I v).e) es).map (sCall (if posKey pos ∈ I.new then gNew else gLst)) else none
  | .Call (.Name x _) args [] cpos => if okName x = true ∧ args.all notStar = true then
      match if glB I.sc x = true then I.G.lookup x else none with
      | some (.fn n) => match seqM (fun v => (rec I v).e) args with
        | some fs => if fs.length = n then some (sCall (call x) fs) else none
        | none => none
      | some (.blt .isinstance) => match args with
        | [a, .Name T _] => match if glB I.sc T = true then I.G.lookup T else none with
          | some (.blt b) => match (rec I a).e, biTy b with
            | some fa, some ty => some (sUn (gIsi ty) fa)
            | _, _ => none
          | _ => none
        | _ => none
      | some (.blt b) => match args with
        | a :: r => match seqM (fun v => (rec I v).e) (a :: r), biGN b (decide (posKey cpos ∈ I.new)) with
          | some fs, some g => some (sCall g fs)
          | _, _ => none
        | [] => none
      | _ => none
    else none
  | .Call (.Attribute o name apos) [a] [] cpos => if okBase o = true ∧ notStar a = true ∧ (apos.endLine == cpos.line) = true then
      if name = ("index" : Str) then
        match conT I o with
        | some ys => (rec I a).e.map fun fa => sUn (gIndexC ys) fa
        | none => match (rec I o).e, (rec I a).e with
          | some fo, some fa => some (sMetL gIndex fo [fa])
          | _, _ => none
      else
      match (rec I o).e, (rec I a).e, metG name with
      | some fo, some fa, some g => some (g fo fa)
      | _, _, _ => none
    else none
  | .Call (.Attribute o name apos) [] [] cpos => if okBase o = true ∧ (apos.endLine == cpos.line) = true ∧ name = ("pop" : Str) then (rec I o).e.map fun fo => sMetO gPop0 fo [] else none
  | .ListComp elt [⟨tg, it, ifs, 0⟩] scope pos => if blkC I.N I.sc scope (ownOf I.N scope.names) = true ∧ notSet it = true then
      match tgOf (inBlk I scope) tg, itOf rec I tg it, (rec (inBlk I scope) elt).e with
      | some (is, t), some fi, some fe => if (is.all fun i => decide (i ∈ (ownOf I.N scope.names).map (·.2))) = true then
          match ifs with
          | [] => some (if posKey pos ∈ I.new then sCompN ((ownOf I.N scope.names).map (·.2)) fi t sYes fe else sComp ((ownOf I.N scope.names).map (·.2)) fi t sYes fe)
          | [c] => (rec (inBlk I scope) c).t.map fun tc => if posKey pos ∈ I.new then sCompN ((ownOf I.N scope.names).map (·.2)) fi t tc fe else sComp ((ownOf I.N scope.names).map (·.2)) fi t tc fe
          | _ => none
        else none
      | _, _, _ => none
    else none
  | _ => none
def testOf (rec : Inf → Expr → CR) (self : Option SE) (I : Inf) (e : Expr) : Option ST := match e with
  | .Compare _ [_] [_] _ => self.map sTst
  | .UnaryOp .Not a _ => (rec I a).t.map sNot
  | .BoolOp op vs _ => match seqM (fun v => (rec I v).t) vs with
    | some fs => boolTs op fs
    | none => none
  | e => if plainTest e = true then self.map sTru else none
def cE (call : Str → GL) : Nat → Inf → Expr → CR
  | 0, _, _ => ⟨none, none⟩
  | n + 1, I, e => ⟨exprOf call (cE call n) I e, testOf (cE call n) (exprOf call (cE call n) I e) I e⟩
end L2.Pv

set_option Elab.async false
set_option linter.all false
set_option maxRecDepth 100000
namespace L2.Pv
open PySem PySem.Spec PyProof.Rows L2

def Sound (call : Str → GL) (k : Nat) (rec : Inf → Expr → CR) : Prop :=
  ∀ (I : Inf) (X : Cx) (e : Expr), Cok X I call k → (∀ f, (rec I e).e = some f → PE X e (LE X.K f)) ∧ ∀ t, (rec I e).t = some t → PT X e (LT X.K t)

section
variable {X : Cx} {I : Inf} {call : Str → GL} {k : Nat} {rec : Inf → Expr → CR}
theorem Cok.u1 (C : Cok X I call k) : X.A.units + 64 < cLine := C.room.units
theorem bin_ok (C : Cok X I call k) {op : Operator} {g : G2} (h : binG op = some g) : OpR X (binaryOp op) (rD X.K g) := by
  cases op <;> cases h
  · exact opd_gAdd
  · exact opd_sub
  · exact opd_mul
  · exact opd_mod
  · exact opd_pow
  · exact opd_fdiv
theorem cmp_ok (C : Cok X I call k) {op : CmpOp} {g : G2} (h : cmpG op = some g) : OpR X (compareOp op) (rD X.K g) := by
  cases op <;> cases h
  · exact opd_eq C.u1
  · exact opd_ne C.u1
  · exact opd_lt C.u1
  · exact opd_le C.u1
  · exact opd_gt C.u1
  · exact opd_ge C.u1
  · exact opd_is
  · exact opd_isnot
  · exact opd_in C.u1
  · exact opd_notIn C.u1
theorem seqM_cons {α β : Type} {f : α → Option β} {a : α} {r : List α} {l : List β} (h : seqM f (a :: r) = some l) : ∃ b bs, f a = some b ∧ seqM f r = some bs ∧ l = b :: bs := by
  unfold seqM at h
  split at h
  · rename_i b e
    obtain ⟨bs, h1, h2⟩ := Option.map_eq_some_iff.mp h
    exact ⟨b, bs, e, h1, h2.symm⟩
  · cases h
theorem args_ok (hr : Sound call k rec) (C : Cok X I call k) : ∀ {es : List Expr} {fs : List SE}, es.all notStar = true → seqM (fun v => (rec I v).e) es = some fs → PA X es (LA X.K (sArgs fs))
  | [], fs, _, h => by
    cases h
    exact la_nil
  | e :: es, fs, hs, h => by
    obtain ⟨b, bs, h1, h2, rfl⟩ := seqM_cons h
    have hs' : notStar e = true ∧ es.all notStar = true := by simpa using hs
    exact la_cons ((hr I X e C).1 b h1) (args_ok hr C hs'.2 h2) (star_cons hs'.1)
theorem boolEs_ok (hr : Sound call k rec) (C : Cok X I call k) {op : BoolOp} {pos : Pos} : ∀ {es : List Expr} {fs : List SE} {f : SE}, seqM (fun v => (rec I v).e) es = some fs → boolEs op fs = some f → PE X (.BoolOp op es pos) (LE X.K f)
  | [], fs, f, h, h2 => by
    cases h
    cases h2
  | [e], fs, f, h, h2 => by
    obtain ⟨b, bs, h1, h3, rfl⟩ := seqM_cons h
    cases h3
    cases h2
    exact le_oneV ((hr I X e C).1 _ h1)
  | e :: e' :: es, fs, f, h, h2 => by
    obtain ⟨b, bs, h1, h3, rfl⟩ := seqM_cons h
    obtain ⟨b', bs', h4, h5, rfl⟩ := seqM_cons h3
    unfold boolEs at h2
    split at h2
    · rename_i g e1
      cases h2
      exact le_andV ((hr I X e C).1 _ h1) (boolEs_ok hr C h3 e1)
    · rename_i g e1
      cases h2
      exact le_orV ((hr I X e C).1 _ h1) (boolEs_ok hr C h3 e1)
    · cases h2
theorem boolTs_ok (hr : Sound call k rec) (C : Cok X I call k) {op : BoolOp} {pos : Pos} : ∀ {es : List Expr} {fs : List ST} {f : ST}, seqM (fun v => (rec I v).t) es = some fs → boolTs op fs = some f → PW X (.BoolOp op es pos) (LT X.K f)
  | [], fs, f, h, h2 => by
    cases h
    cases h2
  | [e], fs, f, h, h2 => by
    obtain ⟨b, bs, h1, h3, rfl⟩ := seqM_cons h
    cases h3
    cases h2
    cases op
    · exact lw_and1 ((hr I X e C).2 _ h1)
    · exact lw_or1 ((hr I X e C).2 _ h1)
  | e :: e' :: es, fs, f, h, h2 => by
    obtain ⟨b, bs, h1, h3, rfl⟩ := seqM_cons h
    obtain ⟨b', bs', h4, h5, rfl⟩ := seqM_cons h3
    unfold boolTs at h2
    split at h2
    · rename_i g e1
      cases h2
      exact lw_and ((hr I X e C).2 _ h1) (boolTs_ok hr C h3 e1)
    · rename_i g e1
      cases h2
      exact lw_or ((hr I X e C).2 _ h1) (boolTs_ok hr C h3 e1)
    · cases h2
theorem part_ok (hr : Sound call k rec) (C : Cok X I call k) {o : Option Expr} {f : Option SE} (h : partOf rec I o = some f) : PO X o (LO X.K f) := by
  cases o with
  | none =>
    cases h
    exact lo_none
  | some e =>
    obtain ⟨f0, h1, rfl⟩ := Option.map_eq_some_iff.mp (show (rec I e).e.map some = some f from h)
    exact lo_some ((hr I X e C).1 _ h1)
theorem glob_of (C : Cok X I call k) {x : Str} {e : GE} (h : (if glB I.sc x = true then I.G.lookup x else none) = some e) : Gl X x ∧ GOk X call k x e := by
  split at h
  · rename_i hg
    exact ⟨gl_of C hg, C.glob x e h⟩
  · cases h
/-- the built-in functions -/
theorem bi_call (C : Cok X I call k) (hr : Sound call k rec) {b : Bi} {g : GL} {x : Str} {p pos : Pos} {a : Expr} {r : List Expr} {fs : List SE} (hb : biG b = some g) (hg : Gl X x) (hk : GOk X call k x (.blt b)) (ho : okName x = true) (hs : (a :: r).all notStar = true)
    (hf : seqM (fun v => (rec I v).e) (a :: r) = some fs) : PE X (.Call (.Name x p) (a :: r) [] pos) (LE X.K (sCall g fs)) := by
  obtain ⟨hm, e⟩ := hk
  obtain ⟨o1, o2, o3⟩ := ok_of ho
  have hs' : notStar a = true ∧ r.all notStar = true := by simpa using hs
  have ha := args_ok hr C hs hf
  have hst := star_cons (env := X.env) (es := r) hs'.1
  have hbk := back_any (env := X.env) pos hs'.2
  cases b <;> cases hb <;> subst e
  · exact le_callB cd_len hg hm (by decide +kernel) ha o3 o1 hst hbk
  · exact le_callB cd_abs hg hm (by decide +kernel) ha o3 o1 hst hbk
  · exact le_callTy cd_int hg hm (by decide +kernel) ha o3 o1 hst hbk
  · exact le_callB (cd_max C.calm) hg hm (by decide +kernel) ha o3 o1 hst hbk
  · exact le_callB (cd_min C.calm) hg hm (by decide +kernel) ha o3 o1 hst hbk
  · exact le_callTy cd_str hg hm (by decide +kernel) ha o3 o1 hst hbk
  · exact le_callB cd_ord hg hm (by decide +kernel) ha o3 o1 hst hbk
  · exact le_callTy cd_list hg hm (by decide +kernel) ha o3 o1 hst hbk
  · exact le_callTy cd_tuple hg hm (by decide +kernel) ha o3 o1 hst hbk
  · exact le_callB (cd_all C.calm) hg hm (by decide +kernel) ha o3 o1 hst hbk
  · exact le_callB (cd_any C.calm) hg hm (by decide +kernel) ha o3 o1 hst hbk
theorem bi_callN (C : Cok X I call k) (hr : Sound call k rec) {b : Bi} {nw : Bool} {g : GL} {x : Str} {p pos : Pos} {a : Expr} {r : List Expr} {fs : List SE} (hb : biGN b nw = some g) (hg : Gl X x) (hk : GOk X call k x (.blt b)) (ho : okName x = true) (hs : (a :: r).all notStar = true)
    (hf : seqM (fun v => (rec I v).e) (a :: r) = some fs) : PE X (.Call (.Name x p) (a :: r) [] pos) (LE X.K (sCall g fs)) := by
  unfold biGN at hb
  split at hb
  · cases hb
    obtain ⟨hm, e⟩ := hk
    obtain ⟨o1, o2, o3⟩ := ok_of ho
    have hs' : notStar a = true ∧ r.all notStar = true := by simpa using hs
    subst e
    exact le_callTy cd_listN hg hm (by decide +kernel) (args_ok hr C hs hf) o3 o1 (star_cons hs'.1) (back_any _ hs'.2)
  · exact bi_call C hr hb hg hk ho hs hf
theorem bi_ty {b : Bi} {ty : String} (h : biTy b = some ty) : ty ∈ isiTs ∧ bootBuiltins (biName b) = some (.type ty) := by
  cases b <;> cases h <;> exact ⟨by decide, by decide +kernel⟩
theorem met_ok {o a : Expr} {name : Str} {apos cpos : Pos} {fo fa : SE} {g : SE → SE → SE} (h : metG name = some g) (f : ∀ nm, M1 X o a nm apos cpos) (ho : PE X o (LE X.K fo)) (ha : PE X a (LE X.K fa)) : PE X (.Call (.Attribute o name apos) [a] [] cpos) (LE X.K (g fo fa)) := by
  unfold metG at h
  split at h
  · rename_i e
    cases h
    subst e
    exact le_append (f _) ho ha
  · split at h
    · rename_i e
      cases h
      subst e
      exact le_extend (f _) ho ha
    · split at h
      · rename_i e
        cases h
        subst e
        exact le_pop1 (f _) ho ha
      · split at h
        · rename_i e
          cases h
          subst e
          exact le_join (f _) ho ha
        · split at h
          · rename_i e
            cases h
            subst e
            exact le_starts (f _) ho ha
          · split at h
            · rename_i e
              cases h
              subst e
              exact le_split (f _) ho ha
            · cases h

/-! ### targets, what is walked -/
theorem name_ok (C : Cok X I call k) {e : Expr} {i : Nat} (h : nmPlace I e = some i) : PG X e (gName i) := by
  unfold nmPlace at h
  split at h
  · rename_i x p
    split at h
    · rename_i j ej
      split at h
      · rename_i hl
        cases h
        obtain ⟨h1, h2⟩ := loc_of C hl
        exact pg_name C.nd (by rw [C.N]; exact idxOf_ok ej) h1 h2
      · cases h
    · cases h
  · cases h
theorem names_ok (C : Cok X I call k) : ∀ {es : List Expr} {is : List Nat}, seqM (nmPlace I) es = some is → NmL X es is ∧ (assignEach es X.env).length = es.length ∧ (assignEach es X.env).findIdx? (·.1) = none ∧ is.length = es.length
  | [], is, h => by
    cases h
    exact ⟨.nil, rfl, rfl, rfl⟩
  | e :: es, is, h => by
    obtain ⟨i, js, h1, h2, rfl⟩ := seqM_cons h
    obtain ⟨h3, h4, h5, h6⟩ := names_ok C h2
    have hg := name_ok C h1
    unfold nmPlace at h1
    split at h1
    · refine ⟨.cons hg rfl h3, ?_, ?_, ?_⟩
      · show _ + 1 = _ + 1
        rw [h4]
      · show List.findIdx? (·.1) ((false, _) :: assignEach es X.env) = none
        rw [List.findIdx?_cons, h5]
        rfl
      · show _ + 1 = _ + 1
        rw [h6]
    · cases h1
theorem tg_ok (C : Cok X I call k) {e : Expr} {is : List Nat} {t : Tg} (h : tgOf I e = some (is, t)) : PG X e (LG X.K is t) := by
  unfold tgOf at h
  split at h
  · obtain ⟨i, h1, h2⟩ := Option.map_eq_some_iff.mp h
    cases h2
    exact lg_name (name_ok C h1)
  · obtain ⟨js, h1, h2⟩ := Option.map_eq_some_iff.mp h
    cases h2
    obtain ⟨h3, h4, h5, h6⟩ := names_ok C h1
    exact lg_tup C.calm h3 h4 h5 h6
  · cases h
theorem tup_of {tg : Expr} (h : isTup tg = true) : ∃ es k p, tg = .Tuple es k p := by
  cases tg <;> first | exact ⟨_, _, _, rfl⟩ | cases h
theorem it_ok (hr : Sound call k rec) (C : Cok X I call k) {tg e : Expr} {f : SI} (h : itOf rec I tg e = some f) : PI X tg e (LI X.K f) := by
  unfold itOf at h
  split at h
  · rename_i x p args pos
    split at h
    · rename_i eg
      obtain ⟨hg, hm, ex⟩ := glob_of C eg
      subst ex
      split at h
      · rename_i a
        split at h
        · rename_i hs
          obtain ⟨fa, h1, rfl⟩ := Option.map_eq_some_iff.mp h
          exact li_rng1 hg hm ((hr I X a C).1 _ h1) (star_cons hs)
        · cases h
      · rename_i a b
        split at h
        · rename_i hs
          split at h
          · rename_i fa fb h1 h2
            cases h
            exact li_rng2 hg hm ((hr I X a C).1 _ h1) ((hr I X b C).1 _ h2) (by rw [star_cons hs.1, star_cons hs.2]; rfl) (star_cons hs.2)
          · cases h
        · cases h
      · cases h
    · rename_i eg
      obtain ⟨hg, hm, ex⟩ := glob_of C eg
      subst ex
      split at h
      · rename_i a
        split at h
        · rename_i hs
          obtain ⟨es, kk, tp, rfl⟩ := tup_of hs.2
          obtain ⟨fa, h1, rfl⟩ := Option.map_eq_some_iff.mp h
          exact li_enum hg hm ((hr I X a C).1 _ h1) (star_cons hs.1)
        · cases h
      · cases h
    · rename_i eg
      obtain ⟨hg, hm, ex⟩ := glob_of C eg
      subst ex
      split at h
      · rename_i a b
        split at h
        · rename_i hs
          obtain ⟨es, kk, tp, rfl⟩ := tup_of hs.2
          split at h
          · rename_i fa fb h1 h2
            cases h
            exact li_zip hg hm ((hr I X a C).1 _ h1) ((hr I X b C).1 _ h2) (star_cons hs.1.1) (star_cons hs.1.2) (back_any _ (by simpa using hs.1.2))
          · cases h
        · cases h
      · cases h
    · rename_i eg
      obtain ⟨hg, hm, ex⟩ := glob_of C eg
      subst ex
      split at h
      · rename_i a
        split at h
        · rename_i hs
          obtain ⟨fa, h1, rfl⟩ := Option.map_eq_some_iff.mp h
          exact li_rev hg hm ((hr I X a C).1 _ h1) (star_cons hs)
        · cases h
      · cases h
    · obtain ⟨fa, h1, rfl⟩ := Option.map_eq_some_iff.mp h
      exact li_iter ((hr I X _ C).1 _ h1)
  · obtain ⟨fa, h1, rfl⟩ := Option.map_eq_some_iff.mp h
    exact li_iter ((hr I X _ C).1 _ h1)
theorem blk_cok (C : Cok X I call k) {scope : Scope} (s : Shared) (H : Hp) (cn : Addr) (cl : List (Str × Addr)) (fp : List Addr) : Cok (X.blk s H scope (compEnvC scope cl cn X.env) fp) (inBlk I scope) call k where
  N := C.N
  nd := C.nd
  sc := by
    show relS scope X.env.scope = relS scope I.sc
    rw [C.sc]
  calm := C.calm
  fn := fun h => by cases h
  xe := rfl
  room := C.room
  glob := fun x e h => C.glob x e h

theorem expr_ok (hr : Sound call k rec) (C : Cok X I call k) {e : Expr} {f : SE} (h : exprOf call rec I e = some f) : PE X e (LE X.K f) := by
  unfold exprOf at h
  split at h
  -- Name
  · rename_i x p
    split at h
    · rename_i ho
      obtain ⟨o1, o2, o3⟩ := ok_of ho
      split at h
      · rename_i i ei
        cases h
        split at ei
        · rename_i hv
          exact le_var (by rw [C.N]; exact idxOf_ok ei) (vis_of C hv) o1 o2
        · cases ei
      · split at h
        · rename_i d eg
          cases h
          obtain ⟨hg, u, v, hm, hv, hd⟩ := glob_of C eg
          exact le_con (pe_glob hg hm hv o1) fun H m => Rp.cov Cov.base _ _ hd
        · cases h
    · cases h
  -- Constant
  · rename_i c j p
    obtain ⟨d, h1, rfl⟩ := Option.map_eq_some_iff.mp h
    unfold constOf at h1
    split at h1
    · cases h1; exact le_con pe_int fun _ _ => .int _
    · cases h1; exact le_con pe_bl fun _ _ => .bl _
    · cases h1; exact le_con pe_non fun _ _ => .non
    · split at h1
      · rename_i ok
        cases h1
        exact le_con pe_str fun _ _ => .str _ ok
      · cases h1
    · cases h1
  -- BinOp
  · split at h
    · rename_i h1 h2 h3
      cases h
      exact le_bin (bin_ok C h3) ((hr I X _ C).1 _ h1) ((hr I X _ C).1 _ h2)
    · cases h
  · obtain ⟨fa, h1, rfl⟩ := Option.map_eq_some_iff.mp h
    exact le_un und_neg ((hr I X _ C).1 _ h1)
  · obtain ⟨fa, h1, rfl⟩ := Option.map_eq_some_iff.mp h
    exact le_notV ((hr I X _ C).1 _ h1)
  -- Compare
  · split at h
    · rename_i hn
      split at h
      · rename_i h1 h2 h3
        cases h
        exact le_cmp (cmp_ok C h3) ((hr I X _ C).1 _ h1) ((hr I X _ C).1 _ h2) (noMark hn _)
      · cases h
    · cases h
  · split at h
    · rename_i fs e1
      exact boolEs_ok hr C e1 h
    · cases h
  · split at h
    · rename_i h1 h2 h3
      cases h
      exact le_ifExp ((hr I X _ C).2 _ h1) ((hr I X _ C).1 _ h2) ((hr I X _ C).1 _ h3)
    · cases h
  -- slices
  · split at h
    · rename_i h1 h2 h3
      cases h
      exact le_slice ((hr I X _ C).1 _ h1) (part_ok hr C h2) (part_ok hr C h3)
    · cases h
  · split at h
    · rename_i hn
      split at h
      · rename_i h1 h2
        cases h
        exact le_ix ((hr I X _ C).1 _ h1) ((hr I X _ C).1 _ h2) (plainIx_of hn)
      · cases h
    · cases h
  -- displays
  · split at h
    · rename_i hs
      obtain ⟨fs, h1, rfl⟩ := Option.map_eq_some_iff.mp h
      exact le_tup (args_ok hr C hs h1)
    · cases h
  · split at h
    · rename_i hs
      obtain ⟨fs, h1, rfl⟩ := Option.map_eq_some_iff.mp h
      split
      · exact le_new (args_ok hr C hs h1)
      · exact le_lst (args_ok hr C hs h1)
    · cases h
  -- calls
  · rename_i x p args pos
    split at h
    · rename_i ho
      obtain ⟨ho, hs⟩ := ho
      obtain ⟨o1, o2, o3⟩ := ok_of ho
      split at h
      · rename_i n eg
        obtain ⟨hg, f0, fd, ps, hm, hk, hb, F⟩ := glob_of C eg
        split at h
        · rename_i fs e1
          split at h
          · rename_i hl
            cases h
            subst hl
            cases args with
            | nil =>
              cases e1
              exact le_call0 F C.room hg hm hk hb o1
            | cons a r =>
              have hs' : notStar a = true ∧ r.all notStar = true := by simpa using hs
              exact le_call F C.room hg hm hk hb (args_ok hr C hs e1) o1 (star_cons hs'.1) (back_any _ hs'.2)
          · cases h
        · cases h
      · rename_i eg
        obtain ⟨hg, hm, ex⟩ := glob_of C eg
        subst ex
        split at h
        · rename_i a T tp
          split at h
          · rename_i b eb
            obtain ⟨hgT, hmT, eT⟩ := glob_of C eb
            split at h
            · rename_i fa ty h1 h2
              cases h
              subst eT
              obtain ⟨b1, b2⟩ := bi_ty h2
              have hs' : notStar a = true := by
                have h7 := List.all_eq_true.mp hs a List.mem_cons_self
                exact h7
              refine le_isi b1 hg hm ((hr I X _ C).1 _ h1) hgT hmT b2 ?_ ?_ (star_cons hs')
              · cases b <;> cases h2 <;> decide +kernel
              · cases b <;> cases h2 <;> decide +kernel
            · cases h
          · cases h
        · cases h
      · rename_i b eg
        obtain ⟨hg, hk⟩ := glob_of C eg
        split at h
        · split at h
          · rename_i fs g h1 h2
            cases h
            exact bi_callN C hr h2 hg hk ho hs h1
          · cases h
        · cases h
      · cases h
    · cases h
  · split at h
    · rename_i hs
      split at h
      · rename_i en
        subst en
        split at h
        · rename_i ys eys
          obtain ⟨fa, h1, rfl⟩ := Option.map_eq_some_iff.mp h
          unfold conT at eys
          split at eys
          · rename_i x p
            split at eys
            · rename_i ho
              split at eys
              · rename_i ds eg
                obtain ⟨hg, u, v, hm, hv, hd⟩ := glob_of C eg
                exact le_indexC hg hm hv hd eys (ok_of ho).1 (m1_of hs.1 hs.2.1 hs.2.2) ((hr I X _ C).1 _ h1)
              · cases eys
            · cases eys
          · cases eys
        · split at h
          · rename_i fo fa h1 h2
            cases h
            exact le_index (by have := C.room.un; omega) (m1_of hs.1 hs.2.1 hs.2.2) ((hr I X _ C).1 _ h1) ((hr I X _ C).1 _ h2)
          · cases h
      · split at h
        · rename_i h1 h2 h3
          cases h
          exact met_ok h3 (fun nm => m1_of hs.1 hs.2.1 hs.2.2) ((hr I X _ C).1 _ h1) ((hr I X _ C).1 _ h2)
        · cases h
    · cases h
  · split at h
    · rename_i hs
      obtain ⟨fo, h1, rfl⟩ := Option.map_eq_some_iff.mp h
      obtain ⟨h2, h3, rfl⟩ := hs
      exact le_pop0 (base_of _ h2) h3 ((hr I X _ C).1 _ h1)
    · cases h
  -- a comprehension
  · split at h
    · rename_i hs
      split at h
      · rename_i is t fi fe h1 h2 h3
        split at h
        · rename_i hin
          have hin' : ∀ i ∈ is, i ∈ (ownOf I.N _).map (·.2) := fun i hi => of_decide_eq_true (List.all_eq_true.mp hin i hi)
          have ok : BlkOk X.N X.env.scope _ _ := blkOk_by (by rw [C.N, C.sc]; exact hs.1)
          split at h
          · cases h
            split
            · exact (pe_lc C.calm C.nd (it_ok hr C h2) ok (fun s H cn cl fp => tg_ok (blk_cok C s H cn cl fp) h1) (fun s H cn cl fp => lts_nil) (fun s H cn cl fp => (hr _ _ _ (blk_cok C s H cn cl fp)).1 _ h3) (noFold hs.2 _)).weak fun σ H Q q => le_compN hin' q
            · exact (pe_lc C.calm C.nd (it_ok hr C h2) ok (fun s H cn cl fp => tg_ok (blk_cok C s H cn cl fp) h1) (fun s H cn cl fp => lts_nil) (fun s H cn cl fp => (hr _ _ _ (blk_cok C s H cn cl fp)).1 _ h3) (noFold hs.2 _)).weak fun σ H Q q => le_comp hin' q
          · obtain ⟨tc, h4, rfl⟩ := Option.map_eq_some_iff.mp h
            split
            · exact (pe_lc C.calm C.nd (it_ok hr C h2) ok (fun s H cn cl fp => tg_ok (blk_cok C s H cn cl fp) h1) (fun s H cn cl fp => lts_one ((hr _ _ _ (blk_cok C s H cn cl fp)).2 _ h4)) (fun s H cn cl fp => (hr _ _ _ (blk_cok C s H cn cl fp)).1 _ h3) (noFold hs.2 _)).weak fun σ H Q q => le_compN hin' q
            · exact (pe_lc C.calm C.nd (it_ok hr C h2) ok (fun s H cn cl fp => tg_ok (blk_cok C s H cn cl fp) h1) (fun s H cn cl fp => lts_one ((hr _ _ _ (blk_cok C s H cn cl fp)).2 _ h4)) (fun s H cn cl fp => (hr _ _ _ (blk_cok C s H cn cl fp)).1 _ h3) (noFold hs.2 _)).weak fun σ H Q q => le_comp hin' q
          · cases h
        · cases h
      · cases h
    · cases h
  · cases h
theorem test_ok (hr : Sound call k rec) (C : Cok X I call k) {e : Expr} {t : ST} (h : testOf rec (exprOf call rec I e) I e = some t) : PT X e (LT X.K t) := by
  unfold testOf at h
  split at h
  · obtain ⟨f, h1, rfl⟩ := Option.map_eq_some_iff.mp h
    simp only [exprOf] at h1
    split at h1
    · rename_i hn
      split at h1
      · rename_i h2 h3 h4
        cases h1
        exact lt_cmp (cmp_ok C h4) ((hr I X _ C).1 _ h2) ((hr I X _ C).1 _ h3) (noMark hn _)
      · cases h1
    · cases h1
  · obtain ⟨f, h1, rfl⟩ := Option.map_eq_some_iff.mp h
    exact lt_not ((hr I X _ C).2 _ h1)
  · split at h
    · rename_i fs e1
      exact (boolTs_ok hr C e1 h).pt
    · cases h
  · split at h
    · rename_i hp
      obtain ⟨f, h1, rfl⟩ := Option.map_eq_some_iff.mp h
      exact lt_val (expr_ok hr C h1) (plain_of hp)
    · cases h
theorem cE_ok (call : Str → GL) (k : Nat) : ∀ n, Sound call k (cE call n)
  | 0 => fun I X e C => ⟨(fun f h => by cases h), (fun t h => by cases h)⟩
  | n + 1 => fun I X e C => ⟨fun f h => expr_ok (cE_ok call k n) C h, fun t h => test_ok (cE_ok call k n) C h⟩
end
end L2.Pv

set_option Elab.async false
set_option linter.all false
set_option maxRecDepth 100000
namespace L2.Pv
open PySem PySem.Spec PyProof.Rows L2

/-! ### statements of the text -/
def kindFn (sc : Scope) : Bool := match sc.kind with
  | .function => true
  | _ => false
def lcSw (sc : Scope) (y : Str) (py : Pos) (scope : Scope) (pos : Pos) : Bool :=
  (match sc.names.lookup y with | some .local => true | _ => false) && (py.line == pos.line) && !(scope.names.any fun (n, kd) => n == y && (kd == .local || kd == .cell))
def stmtOf (ss : Inf → List Stmt → SS) (call : Str → GL) (n : Nat) (I : Inf) (st : Stmt) : SS := match st with
  | .Pass _ => sSkip
  | .Break _ => sBrk
  | .Continue _ => sCnt
  | .Expr e _ => match e with
    | .Constant (.str _) _ _ => sSkip
    | e => if notComp e = true then match (cE call n I e).e with
        | some f => sDrop f
        | none => sBad
      else sBad
  | .Return (some e) _ => match (cE call n I e).e with
    | some f => sRet f
    | none => sBad
  | .Return none _ => sRetN
  | .If c a b _ => match (cE call n I c).t with
    | some t => sIte t (ss I a) (ss I b)
    | none => sBad
  | .While c b [] _ => match (cE call n I c).t with
    | some t => sWhile t (ss I b)
    | none => sBad
  | .For tg it b [] _ => if notSet it = true then match tgOf I tg, itOf (cE call n) I tg it with
      | some (_, t), some f => sFor f t (ss I b)
      | _, _ => sBad
    else sBad
  | .Assign [.Name x p] e _ => match nmPlace I (.Name x p), (cE call n I e).e with
    | some i, some f => if notComp e = true then sSet i f else match e with
      | .ListComp _ [⟨_, _, _, 0⟩] _ _ => if kindFn I.sc = true then sSet i f else sBad
      | _ => sBad
    | _, _ => sBad
  | .Assign [.Tuple es kk p] e _ => if notTuple e = true then match tgOf I (.Tuple es kk p), (cE call n I e).e with
      | some (_, t), some f => sAsg t f
      | _, _ => sBad
    else sBad
  | .Assign [.Subscript o i _] e _ => if notSlice i = true then match (cE call n I o).e, (cE call n I i).e, (cE call n I e).e with
      | some fo, some fi, some fe => sPut fo fi fe
      | _, _, _ => sBad
    else sBad
  | _ => sBad
def cSs (call : Str → GL) (n : Nat) : Nat → Inf → List Stmt → SS
  | 0, _, _ => sBad
  | m + 1, I, sts => match sts with
    | [] => sSkip
    | [st] => stmtOf (cSs call n m) call n I st
    | st :: r => sSeq (stmtOf (cSs call n m) call n I st) (cSs call n m I r)

section
variable {X : Cx} {I : Inf} {call : Str → GL} {k n : Nat}
theorem lc_inv {rec : Inf → Expr → CR} (hr : Sound call k rec) (C : Cok X I call k) {elt tg it : Expr} {ifs : List Expr} {scope : Scope} {pos : Pos} {f : SE} (h : exprOf call rec I (.ListComp elt [⟨tg, it, ifs, 0⟩] scope pos) = some f) :
    ∃ (own : List (Str × Nat)) (wi : TI) (g : TG) (tt : TT) (te : TE), PI X tg it wi ∧ BlkOk X.N X.env.scope scope own ∧ (∀ (s : Shared) (H : Hp) (cn : Addr) (cl : List (Str × Addr)) (fp : List Addr), PG (X.blk s H scope (compEnvC scope cl cn X.env) fp) tg g) ∧
      (∀ (s : Shared) (H : Hp) (cn : Addr) (cl : List (Str × Addr)) (fp : List Addr), PTs (X.blk s H scope (compEnvC scope cl cn X.env) fp) ifs tt) ∧ (∀ (s : Shared) (H : Hp) (cn : Addr) (cl : List (Str × Addr)) (fp : List Addr), PE (X.blk s H scope (compEnvC scope cl cn X.env) fp) elt te) ∧
      (∀ x, foldedSetIterable it X.env x = pure x) ∧ ∀ σ H Q, LE X.K f σ H Q → tLc wi g tt te (own.map (·.2)) σ H Q := by
  simp only [exprOf] at h
  split at h
  · rename_i hs
    split at h
    · rename_i is t fi fe h1 h2 h3
      split at h
      · rename_i hin
        have hin' : ∀ i ∈ is, i ∈ (ownOf I.N scope.names).map (·.2) := fun i hi => of_decide_eq_true (List.all_eq_true.mp hin i hi)
        have ok : BlkOk X.N X.env.scope scope (ownOf I.N scope.names) := blkOk_by (by rw [C.N, C.sc]; exact hs.1)
        split at h
        · cases h
          exact ⟨_, _, _, _, _, it_ok hr C h2, ok, fun s H cn cl fp => tg_ok (blk_cok C s H cn cl fp) h1, fun s H cn cl fp => lts_nil, fun s H cn cl fp => (hr _ _ _ (blk_cok C s H cn cl fp)).1 _ h3, noFold hs.2 _, fun σ H Q q => by
            split at q
            · exact le_compN hin' q
            · exact le_comp hin' q⟩
        · obtain ⟨tc, h4, rfl⟩ := Option.map_eq_some_iff.mp h
          exact ⟨_, _, _, _, _, it_ok hr C h2, ok, fun s H cn cl fp => tg_ok (blk_cok C s H cn cl fp) h1, fun s H cn cl fp => lts_one ((hr _ _ _ (blk_cok C s H cn cl fp)).2 _ h4), fun s H cn cl fp => (hr _ _ _ (blk_cok C s H cn cl fp)).1 _ h3, noFold hs.2 _, fun σ H Q q => by
            split at q
            · exact le_compN hin' q
            · exact le_comp hin' q⟩
        · cases h
      · cases h
    · cases h
  · cases h
theorem swaps_lc {elt : Expr} {gs : List Comprehension} {scope : Scope} {pos py : Pos} {y : Str} {l : Nat} {env : PySem.Env} (hk : env.scope.kind = .function) :
    swapsWith (.ListComp elt gs scope pos) (some (.Name y py)) l env = pure (lcSw env.scope y py scope pos) := by
  have hb : env.blockKind = .function := by unfold Env.blockKind; rw [hk]; rfl
  unfold swapsWith lcSw
  simp only [hb, Expr.pos, Env.kindOf]
  cases h : env.scope.names.lookup y with
  | none => rfl
  | some kd => cases kd <;> rfl
theorem swaps_sole {t e : Expr} {l : Nat} {env : PySem.Env} : swapsWithSole [t] e l env = swapsWith e (some t) l env := rfl
theorem assign_sub {o i : Expr} {p : Pos} {env : PySem.Env} (h : notSlice i = true) : ∀ v, assign (.Subscript o i p) env v = (do
      let ov ← holding [v] (eval o env)
      let iv ← holding [v, ov] (eval i env)
      standAt p
      holding [v, ov, iv] (setItem ov iv v)
      release [v, ov, iv] []) := by
  cases i <;> first | (intro _; rfl) | cases h
theorem stmt_ok {ss : Inf → List Stmt → SS} (hss : ∀ sts, PSs X sts (LS X.K (ss I sts))) (C : Cok X I call k) (st : Stmt) : PS X st (LS X.K (stmtOf ss call n I st)) := by
  have hr := cE_ok call k n
  unfold stmtOf
  split
  · exact ls_pass
  · exact ls_brk
  · exact ls_cnt
  · split
    · exact ls_doc
    · split
      · rename_i hn
        split
        · rename_i h1
          exact ls_drop ((hr I X _ C).1 _ h1) (swaps_none hn _ _)
        · exact ls_bad
      · exact ls_bad
  · split
    · rename_i h1
      exact ls_ret ((hr I X _ C).1 _ h1)
    · exact ls_bad
  · exact ls_retN
  · split
    · rename_i h1
      exact ls_if ((hr I X _ C).2 _ h1) (hss _) (hss _)
    · exact ls_bad
  · split
    · rename_i h1
      exact ls_while C.xe ((hr I X _ C).2 _ h1) (hss _)
    · exact ls_bad
  · split
    · rename_i hn
      split
      · rename_i h1 h2
        exact ls_for C.xe C.calm (it_ok hr C h2) (tg_ok C h1) (hss _) (noFold hn _)
      · exact ls_bad
    · exact ls_bad
  · rename_i x p e pos
    split
    · rename_i i f h1 h2
      have hg := name_ok C h1
      simp only [nmPlace] at h1
      split at h1
      · rename_i j ej
        split at h1
        · rename_i hl
          cases h1
          obtain ⟨l1, l2⟩ := loc_of C hl
          have hN : X.N[i]? = some x := by rw [C.N]; exact idxOf_ok ej
          split
          · rename_i hn
            exact ls_set_of (t := tAsg (LE X.K f) (gName i)) (ps_set C.nd hN l1 ((hr I X _ C).1 _ h2) (swaps_none hn _ _) l2)
          · split
            · rename_i elt tg it ifs scope lpos _
              split
              · rename_i hk
                have hkf : X.env.scope.kind = .function := by
                  rw [C.sc]
                  unfold kindFn at hk
                  split at hk
                  · assumption
                  · cases hk
                cases hsw : lcSw X.env.scope x p scope lpos with
                | false => exact ls_set_of (t := tAsg (LE X.K f) (gName i)) (ps_set C.nd hN l1 ((hr I X _ C).1 _ h2) (by rw [swaps_lc hkf, hsw]) l2)
                | true =>
                  cases n with
                  | zero => cases h2
                  | succ n =>
                    obtain ⟨own, wi, g, tt, te, c1, c2, c3, c4, c5, c6, c7⟩ := lc_inv (pos := lpos) (cE_ok call k n) C h2
                    have hyl : X.env.scope.names.lookup x = some .local := by
                      unfold lcSw at hsw
                      simp only [Bool.and_eq_true] at hsw
                      have q := hsw.1.1
                      split at q
                      · assumption
                      · cases q
                    refine ls_set_of (t := tAsg (LE X.K f) (gName i)) ((ps_setLc C.calm C.nd hN hyl (by rw [swaps_lc hkf, hsw]) c1 c2 c3 c4 c5 c6).weak fun D σ H q => ?_)
                    exact c7 σ H _ q
              · exact ls_bad
            · exact ls_bad
        · cases h1
      · cases h1
    · exact ls_bad
  · split
    · rename_i hn
      split
      · rename_i h1 h2
        exact ls_asg ((hr I X _ C).1 _ h2) (tg_ok C h1) (by rw [swaps_sole]; exact swaps_tup _ _ (fun _ _ z => nomatch z)) (stores_none _ hn) rfl
      · exact ls_bad
    · exact ls_bad
  · split
    · rename_i hn
      split
      · rename_i h1 h2 h3
        exact ls_put ((hr I X _ C).1 _ h1) ((hr I X _ C).1 _ h2) ((hr I X _ C).1 _ h3) (by rw [swaps_sole]; exact swaps_tup _ _ (fun _ _ z => nomatch z)) (stores_none' _ rfl (fun _ _ z => nomatch z)) (assign_sub hn)
      · exact ls_bad
    · exact ls_bad
  · exact ls_bad
theorem cSs_ok (C : Cok X I call k) : ∀ (m : Nat) (sts : List Stmt), PSs X sts (LS X.K (cSs call n m I sts))
  | 0, sts => pss_never.weak fun D σ H ⟨Γ, S, ρ, τ, fl, S', hS, hE, hf, hc⟩ => by cases hf
  | m + 1, sts => by
    unfold cSs
    split
    · exact ls_nil
    · exact ls_one (stmt_ok (cSs_ok C m) C _)
    · exact ls_cons (stmt_ok (cSs_ok C m) C _) (cSs_ok C m _)
end
end L2.Pv

set_option Elab.async false
set_option linter.all false
set_option maxRecDepth 100000
namespace L2.Pv
open PySem PySem.Spec PyProof.Rows L2

/-! ### defs -/
def fin (keep : Bool) (n : Nat) (v : Vl) (S : Sto) : R Vl := match v with
  | .d d => .ok (.d d) (S.take n)
  | .k _ => .bad
  | .o m => if m < n then .ok (.o m) (S.take n) else match lstOf S m with
    | some ds => if keep = true then .ok (.o n) (S.take n ++ [.lst ds]) else .ok (.d (.list ds)) (S.take n)
    | none => .bad
def fnEnd (keep : Bool) (n : Nat) : R Fl → R Vl
  | .ok (.rt v) S' => fin keep n v S'
  | .ok (.nx _) S' => fin keep n (.d .none) S'
  | _ => .bad
def fnSem (body : SS) (np nN : Nat) (keep : Bool) : GL := fun vs S =>
  if vs.length = np then fnEnd keep S.length (body (vs.map some ++ List.replicate (nN - np) none) S) else .bad
structure Ent where
  x : Str
  st : Stmt
  ps : List Str
  N : List Str
  keep : Bool
  new : List Nat
  body : (Str → GL) → SS
def entAt (T : List Ent) (x : Str) : Option Ent := T.find? (·.x == x)
def run (T : List Ent) : Nat → Str → GL
  | 0, _ => fun _ _ => .bad
  | k + 1, x => match entAt T x with
    | some e => fnSem (e.body (run T k)) e.ps.length e.N.length e.keep
    | none => fun _ _ => .bad
structure EntOk (G : List (Str × GE)) (e : Ent) : Prop where
  body : ∀ call, cSs call 40 400 ⟨e.N, defScope e.st, false, G, e.new⟩ (defBody e.st) = e.body call
  sc : FnScope e.N e.ps (defScope e.st)
structure TabOk (K : PySem.W.Frag) (mg : Str → Option Value) (G : List (Str × GE)) (T : List Ent) : Prop where
  st : ∀ e ∈ T, EntOk G e
  fn : ∀ e ∈ T, ∃ f fd, Fun K e.x e.x e.st f fd ∧ mg e.x = some (.ref f) ∧ Binds K fd e.ps []
  gl : ∀ x b, G.lookup x = some (.blt b) → mg x = none ∧ x = biName b
  gc : ∀ x d, G.lookup x = some (.con d) → ∃ u v, mg x = some u ∧ RelV v u ∧ Rp K HN [] v d
  gf : ∀ x n, G.lookup x = some (.fn n) → ∃ e, entAt T x = some e ∧ e.ps.length = n

section
variable {P : Program} {w : World} {K : PySem.W.Frag} {mg : Str → Option Value} {base : Heap} {G : List (Str × GE)} {T : List Ent} {ρ ρ' τ : List Addr} {S S1 S' : Sto} {H H' : Hp}
theorem paired_take_len {α β : Type} {F : α → β → Prop} {l : List α} {r : List β} (n : Nat) (h : Paired F l r) : Paired F (l.take n) (r.take n) := pairedTake n h
theorem fin_ok {keep : Bool} {v r : Vl} {x : V} (hS : StR K ρ τ S H) (hx : Ext ρ τ H ρ' H') (hS1 : StR K ρ' τ S1 H') (hv : Vr K H' ρ' τ x v) (h : fin keep S.length v S1 = .ok r S') :
    ∃ ρ2, Ext ρ τ H ρ2 H' ∧ StR K ρ2 τ S' H' ∧ Vr K H' ρ2 τ x r := by
  obtain ⟨new, rfl, hn⟩ := hx.pre
  have hl := hS.len
  have less : ∀ a ∈ ρ ++ τ, a ∈ (ρ ++ new) ++ τ := fun a ha => by
    rcases List.mem_append.mp ha with ha | ha
    · exact List.mem_append_left _ (List.mem_append_left _ ha)
    · exact List.mem_append_right _ ha
  have nd : ρ.Nodup := hS.nd
  have e1 : Ext ρ τ H ρ H' := ⟨⟨[], by simp, by simp⟩, hx.keep, fun a ha => hx.trk a (List.mem_append_left _ ha)⟩
  have s1 : StR K ρ τ (S1.take S.length) H' := ⟨nd, hS.ap, hS1.tk, by
    have := pairedTake S.length hS1.all
    rw [List.take_append_of_le_length (by omega), List.take_of_length_le (by omega)] at this
    exact pairedMono this fun a p _ q => q.cov (Cov.less less) rfl⟩
  cases v with
  | d d =>
    cases h
    exact ⟨ρ, e1, s1, Rp.cov (Cov.less less) _ _ hv⟩
  | k ds => cases h
  | o m =>
    obtain ⟨a, ha, rfl⟩ := hv
    simp only [fin] at h
    split at h
    · rename_i hm
      cases h
      refine ⟨ρ, e1, s1, a, ?_, rfl⟩
      rw [List.getElem?_append_left (by omega)] at ha
      exact ha
    · rename_i hm
      split at h
      · rename_i ds el
        obtain ⟨xs, h3, h4⟩ := hS1.lstAt ha el
        have ham : a ∈ new := by
          rw [List.getElem?_append_right (by omega)] at ha
          exact List.mem_of_getElem? ha
        have haρ : a ∉ ρ := fun z => by
          have := hS1.nd
          rw [List.nodup_append] at this
          exact this.2.2 a z a ham rfl
        have haτ : a ∉ τ := hS1.ap a (List.mem_append_right _ ham)
        split at h
        · cases h
          have less2 : ∀ b ∈ (ρ ++ [a]) ++ τ, b ∈ (ρ ++ new) ++ τ := fun b hb => by
            rcases List.mem_append.mp hb with hb | hb
            · rcases List.mem_append.mp hb with hb | hb
              · exact List.mem_append_left _ (List.mem_append_left _ hb)
              · rw [List.mem_singleton.mp hb]
                exact List.mem_append_left _ (List.mem_append_right _ ham)
            · exact List.mem_append_right _ hb
          refine ⟨ρ ++ [a], ⟨⟨[a], rfl, fun b hb => by rw [List.mem_singleton.mp hb]; exact hn a ham⟩, hx.keep, fun b hb => ?_⟩, ⟨?_, fun b hb => ?_, hS1.tk, ?_⟩, a, ?_, rfl⟩
          · rcases List.mem_append.mp hb with hb | hb
            · exact hx.trk b (List.mem_append_left _ hb)
            · rw [List.mem_singleton.mp hb]
              exact hx.trk a (List.mem_append_right _ ham)
          · rw [List.nodup_append]
            refine ⟨nd, by simp, fun b hb c hc z => ?_⟩
            rw [List.mem_singleton.mp hc] at z
            rw [z] at hb
            exact haρ hb
          · rcases List.mem_append.mp hb with hb | hb
            · exact hS.ap b hb
            · rw [List.mem_singleton.mp hb]
              exact haτ
          · refine pairedAppend ?_ (.cons ⟨xs, h3, RpL.cov (Cov.less less2) _ _ h4⟩ .nil)
            have := pairedTake S.length hS1.all
            rw [List.take_append_of_le_length (by omega), List.take_of_length_le (by omega)] at this
            exact pairedMono this fun a p _ q => q.cov (Cov.less less2) rfl
          · rw [← hl, List.getElem?_append_right (Nat.le_refl _), Nat.sub_self]
            rfl
        · cases h
          exact ⟨ρ, e1, s1, (show Rp _ _ _ _ _ from .lst ⟨h3, fun z => by
            rcases List.mem_append.mp z with z | z
            · exact haρ z
            · exact haτ z⟩ (RpL.cov (Cov.less less) _ _ h4))⟩
      · cases h
theorem enr_start {vs : List V} {ds : List Vl} (h : VrL K H ρ τ vs ds) (n : Nat) : EnR K H ρ τ (vs.map some ++ List.replicate n none) (ds.map some ++ List.replicate n none) := by
  refine pairedAppend ?_ ?_
  · induction h with
    | nil => exact .nil
    | cons a b ih => exact .cons (fun v e => by cases e; exact ⟨_, rfl, a⟩) ih
  · induction n with
    | zero => exact .nil
    | succ n ih =>
      rw [List.replicate_succ, List.replicate_succ]
      exact .cons (fun v e => by cases e) ih
theorem entAt_mem {x : Str} {e : Ent} (h : entAt T x = some e) : e ∈ T ∧ e.x = x := by
  unfold entAt at h
  exact ⟨List.mem_of_find?_eq_some h, by simpa using List.find?_some h⟩
/-- every def keeps what its body means -/
theorem fn_all (ok : TabOk K mg G T) : ∀ (k : Nat) (x : Str) (e : Ent), entAt T x = some e →
    ∃ f fd, mg x = some (.ref f) ∧ PySem.W.keepIn K (.ref f) = true ∧ Binds K fd e.ps [] ∧ Fun K e.x e.x e.st f fd ∧ FnOk P w K mg base CX0 k f fd e.ps (SpD K e.ps.length (run T k x))
  | 0, x, e, he => by
    obtain ⟨hm, rfl⟩ := entAt_mem he
    obtain ⟨f, fd, F, hmg, hb⟩ := ok.fn e hm
    refine ⟨f, fd, hmg, F.kp, hb, F, ⟨fun vs H Q E h => h.1, fun A outer s H args us vs Q E hr e0 hbd hv h => ?_⟩⟩
    obtain ⟨_, ρ, τ, S, ds, r, S', _, _, hg, _⟩ := h
    cases hg
  | k + 1, x, e, he => by
    obtain ⟨hm, rfl⟩ := entAt_mem he
    obtain ⟨f, fd, F, hmg, hb⟩ := ok.fn e hm
    have E0 := ok.st e hm
    refine ⟨f, fd, hmg, F.kp, hb, F, F.ok E0.sc (fun vs H Q E h => h.1) fun cdv A outer s H vs Q E hr h => ?_⟩
    obtain ⟨hl, ρ, τ, S, ds, r, S', hS, hv, hg, hc⟩ := h
    generalize hX : (cxOf CX0 P w K mg base e.N e.x (defScope e.st) f cdv A outer s H E).nox = X
    have C : Cok X ⟨e.N, defScope e.st, false, G, e.new⟩ (run T k) k := by
      subst hX
      refine ⟨rfl, E0.sc.nd, rfl, rfl, fun _ _ => rfl, rfl, hr, fun y ge hy => ?_⟩
      cases ge with
      | blt b => exact ok.gl y b hy
      | con d => exact ok.gc y d hy
      | fn n =>
        obtain ⟨e', he', hn⟩ := ok.gf y n hy
        obtain ⟨f', fd', h1, h2, h3, _, h4⟩ := fn_all ok k y e' he'
        exact ⟨f', fd', e'.ps, h1, h2, h3, by rw [← hn]; exact h4⟩
    have body := cSs_ok (n := 40) C 400 (defBody e.st)
    rw [E0.body] at body
    refine ⟨_, body, ?_⟩
    have hK : X.K = K := by subst hX; rfl
    rw [hK]
    simp only [run, he, fnSem] at hg
    split at hg
    · rename_i hdl
      have hvl := Paired.length hv
      cases hb2 : e.body (run T k) (ds.map some ++ List.replicate (e.N.length - e.ps.length) none) S with
      | bad =>
        rw [hb2] at hg
        cases hg
      | ok fl S1 =>
        rw [hb2] at hg
        refine ⟨_, S, ρ, τ, fl, S1, hS, ?_, hb2, ?_⟩
        · show EnR K H ρ τ (start e.N vs) _
          unfold start
          rw [hl]
          exact enr_start hv _
        · cases fl with
          | nx Γ =>
            exact fun ρ' H' σ' hx hS' hE' => by
              obtain ⟨ρ2, g1, g2, g3⟩ := fin_ok (keep := e.keep) hS hx hS' (v := .d .none) (x := .non) (show Rp _ _ _ _ _ from .non) hg
              exact hc ρ2 H' _ g1 g2 g3
          | rt v =>
            exact fun ρ' H' y hx hS' hy => by
              obtain ⟨ρ2, g1, g2, g3⟩ := fin_ok hS hx hS' hy hg
              exact hc ρ2 H' _ g1 g2 g3
          | bk Γ => cases hg
          | ct Γ => cases hg
    · cases hg
/-- the law -/
theorem law_sp {k : Nat} {a : Addr} {ns : List Int} {T : List Ent} (hS : SqL K H a (ns.map V.int)) (h : run T k "law" [.k (ns.map .int)] [] = .ok (.d (.bool true)) []) : SpD K 1 (run T k "law") [.ref a] H (fun v _ => v = .bl true) fun _ _ _ => False := by
  refine ⟨rfl, [], [], [], [.k (ns.map .int)], .d (.bool true), [], ⟨List.nodup_nil, (fun a h => by cases h), (fun a h => by cases h), .nil⟩, .cons ⟨a, ns.map V.int, rfl, ?_, RpL.map (fun i => .int i) ns⟩ .nil, h, fun ρ' H' x _ _ hx => ?_⟩
  · rcases hS with hS | hS
    · exact .inl ⟨hS, by simp⟩
    · exact .inr hS
  · cases (show Rp _ _ _ _ _ from hx)
    rfl
end
end L2.Pv

set_option Elab.async false
set_option linter.all false
set_option maxRecDepth 100000
namespace L2.Pv
open PySem PySem.Spec PyProof.Rows L2

/-! ### what a meaning satisfies -/
def R.Sat {α : Type} (r : R α) (Q : α → Sto → Prop) : Prop := match r with
  | .ok a S => Q a S
  | .bad => False
theorem Sat_ok {α : Type} {a : α} {S : Sto} {Q : α → Sto → Prop} : (R.ok a S).Sat Q = Q a S := rfl
theorem Sat_bad {α : Type} {Q : α → Sto → Prop} : (R.bad : R α).Sat Q = False := rfl
theorem R.Sat.of_eq {α : Type} {r : R α} {a : α} {S : Sto} {Q : α → Sto → Prop} (e : r = .ok a S) (h : Q a S) : r.Sat Q := by rw [e]; exact h
theorem R.Sat.eq {α : Type} {r : R α} {a : α} {S : Sto} (h : r.Sat fun b S' => b = a ∧ S' = S) : r = .ok a S := by
  cases r with
  | ok b S' => obtain ⟨rfl, rfl⟩ := h; rfl
  | bad => exact h.elim
theorem R.Sat.mono {α : Type} {r : R α} {Q Q' : α → Sto → Prop} (h : r.Sat Q) (f : ∀ a S, Q a S → Q' a S) : r.Sat Q' := by
  cases r with
  | ok b S' => exact f _ _ h
  | bad => exact h.elim
theorem Sat_bind {α β : Type} {r : R α} {f : α → Sto → R β} {Q : β → Sto → Prop} : (r.bind f).Sat Q = r.Sat fun a S => (f a S).Sat Q := by cases r <;> rfl
theorem R.Sat.bind {α β : Type} {r : R α} {f : α → Sto → R β} {P : α → Sto → Prop} {Q : β → Sto → Prop} (h : r.Sat P) (k : ∀ a S, P a S → (f a S).Sat Q) : (r.bind f).Sat Q := by
  rw [Sat_bind]
  exact h.mono k
/-- evaluation goes to the head alone -/
theorem bind_congr {α β : Type} {r r' : R α} {f : α → Sto → R β} (h : r = r') : r.bind f = r'.bind f := by rw [h]
theorem bind_okE {α β : Type} {a : α} {S : Sto} {f : α → Sto → R β} : (R.ok a S).bind f = f a S := rfl
theorem bind_badE {α β : Type} {f : α → Sto → R β} : (R.bad : R α).bind f = .bad := rfl
theorem Sat_congr {α : Type} {r r' : R α} {Q : α → Sto → Prop} (h : r = r') : r.Sat Q = r'.Sat Q := by rw [h]
/-- a choice -/
def pick {α : Type} (b : Bool) (x y : α) : α := if b = true then x else y
theorem pick_congr {α : Type} {b b' : Bool} {x y : α} (h : b = b') : pick b x y = pick b' x y := by rw [h]
theorem pick_t {α : Type} {x y : α} : pick true x y = x := rfl
theorem pick_f {α : Type} {x y : α} : pick false x y = y := rfl
theorem Sat_pick {α : Type} {b : Bool} {x y : R α} {Q : α → Sto → Prop} (h1 : b = true → x.Sat Q) (h2 : b = false → y.Sat Q) : (pick b x y).Sat Q := by
  cases b
  · exact h2 rfl
  · exact h1 rfl
theorem Sat_pickB {α β : Type} {b : Bool} {x y : R α} {f : α → Sto → R β} {Q : β → Sto → Prop} (h1 : b = true → (x.bind f).Sat Q) (h2 : b = false → (y.bind f).Sat Q) : ((pick b x y).bind f).Sat Q := by
  cases b
  · exact h2 rfl
  · exact h1 rfl

/-! ### the equations -/
section
variable {Γ : Env} {S : Sto}
theorem x_var {i : Nat} : sVar i Γ S = match Γ[i]? with | some (some v) => .ok v S | _ => .bad := rfl
theorem x_con {d : PyData} : sCon d Γ S = .ok (.d d) S := rfl
theorem x_bin {g : G2} {a b : SE} : sBin g a b Γ S = (a Γ S).bind fun x S1 => (b Γ S1).bind fun y S2 => g x y S2 := rfl
theorem x_un {g : G1} {a : SE} : sUn g a Γ S = (a Γ S).bind fun x S1 => g x S1 := rfl
theorem x_args0 : sArgs [] Γ S = .ok [] S := rfl
theorem x_args {f : SE} {fs : List SE} : sArgs (f :: fs) Γ S = (f Γ S).bind fun v S1 => (sArgs fs Γ S1).bind fun vs S2 => .ok (v :: vs) S2 := rfl
theorem x_call {g : GL} {fs : List SE} : sCall g fs Γ S = (sArgs fs Γ S).bind g := rfl
theorem x_tst {a : SE} : sTst a Γ S = (a Γ S).bind fun v S1 => match boolOf v with | some b => .ok b S1 | none => .bad := rfl
theorem x_tru {a : SE} : sTru a Γ S = (a Γ S).bind fun v S1 => match gTru v S1 with | some b => .ok b S1 | none => .bad := rfl
theorem x_not {a : ST} : sNot a Γ S = (a Γ S).bind fun b S1 => .ok (!b) S1 := rfl
theorem x_and {a b : ST} : sAnd a b Γ S = (a Γ S).bind fun x S1 => pick x (b Γ S1) (.ok false S1) := rfl
theorem x_or {a b : ST} : sOr a b Γ S = (a Γ S).bind fun x S1 => pick x (.ok true S1) (b Γ S1) := rfl
theorem x_if {c : ST} {a b : SE} : sIf c a b Γ S = (c Γ S).bind fun x S1 => pick x (a Γ S1) (b Γ S1) := rfl
theorem x_andV {a b : SE} : sAndV a b Γ S = (a Γ S).bind fun x S1 => match boolOf x with | some k => pick k (b Γ S1) (.ok (.d (.bool false)) S1) | none => .bad := by
  unfold sAndV
  congr
  funext x S1
  cases h : boolOf x with
  | none => rfl
  | some k => cases k <;> rfl
theorem x_orV {a b : SE} : sOrV a b Γ S = (a Γ S).bind fun x S1 => match boolOf x with | some k => pick k (.ok (.d (.bool true)) S1) (b Γ S1) | none => .bad := by
  unfold sOrV
  congr
  funext x S1
  cases h : boolOf x with
  | none => rfl
  | some k => cases k <;> rfl
theorem x_notV {a : SE} : sNotV a Γ S = (a Γ S).bind fun x S1 => match boolOf x with | some k => .ok (.d (.bool (!k))) S1 | none => .bad := rfl
theorem x_sl {a : SE} {lo hi : Option SE} : sSl a lo hi Γ S = (a Γ S).bind fun x S1 => (sPart lo Γ S1).bind fun l S2 => (sPart hi Γ S2).bind fun h S3 => gSl x l h S3 := rfl
theorem x_part0 : sPart none Γ S = .ok none S := rfl
theorem x_part {f : SE} : sPart (some f) Γ S = (f Γ S).bind fun v S1 => match intOf v with | some i => .ok (some i) S1 | none => .bad := rfl
theorem x_metO {g : Vl → GL} {a : SE} {fs : List SE} : sMetO g a fs Γ S = (a Γ S).bind fun x S1 => match x with
  | .o n => match lstOf S1 n with
    | some _ => (sArgs fs Γ S1).bind fun vs S2 => g x vs S2
    | none => .bad
  | _ => .bad := rfl
theorem x_metS {g : Vl → GL} {a : SE} {fs : List SE} : sMetS g a fs Γ S = (a Γ S).bind fun x S1 => match x with
  | .d (.str _) => (sArgs fs Γ S1).bind fun vs S2 => g x vs S2
  | _ => .bad := rfl
theorem x_skip : sSkip Γ S = .ok (.nx Γ) S := rfl
theorem x_seq {a b : SS} : sSeq a b Γ S = (a Γ S).bind fun f S1 => sThen f S1 b := rfl
theorem x_thenN {b : SS} : sThen (.nx Γ) S b = b Γ S := rfl
theorem x_thenR {v : Vl} {b : SS} : sThen (.rt v) S b = .ok (.rt v) S := rfl
theorem x_thenB {b : SS} : sThen (.bk Γ) S b = .ok (.bk Γ) S := rfl
theorem x_thenC {b : SS} : sThen (.ct Γ) S b = .ok (.ct Γ) S := rfl
theorem x_drop {e : SE} : sDrop e Γ S = (e Γ S).bind fun _ S1 => .ok (.nx Γ) S1 := rfl
theorem x_ret {e : SE} : sRet e Γ S = (e Γ S).bind fun v S1 => .ok (.rt v) S1 := rfl
theorem x_retN : sRetN Γ S = .ok (.rt (.d .none)) S := rfl
theorem x_ite {c : ST} {a b : SS} : sIte c a b Γ S = (c Γ S).bind fun x S1 => pick x (a Γ S1) (b Γ S1) := rfl
theorem x_set {i : Nat} {e : SE} : sSet i e Γ S = (e Γ S).bind fun v S1 => .ok (.nx (Γ.set i (some v))) S1 := rfl
theorem x_asg {t : Tg} {e : SE} : sAsg t e Γ S = (e Γ S).bind fun v S1 => match v with
  | .d d => match t d Γ with
    | some Γ' => .ok (.nx Γ') S1
    | none => .bad
  | _ => .bad := rfl
theorem x_brk : sBrk Γ S = .ok (.bk Γ) S := rfl
theorem x_cnt : sCnt Γ S = .ok (.ct Γ) S := rfl
theorem x_put {o i e : SE} : sPut o i e Γ S = (e Γ S).bind fun v S1 => (o Γ S1).bind fun x S2 => (i Γ S2).bind fun y S3 => match gPut x y v S3 with
  | some S4 => .ok (.nx Γ) S4
  | none => .bad := rfl
theorem x_for {it : SI} {tg : Tg} {b : SS} : sFor it tg b Γ S = (it Γ S).bind fun src S1 => floop tg b src (fuelOf src) 0 Γ S1 := rfl
theorem x_iter {a : SE} : sIter a Γ S = (a Γ S).bind fun v S1 => match srcOf S1 v with | some s => .ok s S1 | none => .bad := rfl
theorem x_yes : sYes Γ S = .ok true S := rfl
theorem x_rng1 {a : SE} : sRng1 a Γ S = (a Γ S).bind fun v S1 => match intOf v with
  | some j => pick (decide (-(2 ^ 62) ≤ j ∧ j < 2 ^ 62)) (.ok (.its (rngIts 0 j.toNat)) S1) .bad
  | none => .bad := by
  unfold sRng1 pick
  simp only [decide_eq_true_eq]
  all_goals rfl
theorem x_rng2 {a b : SE} : sRng2 a b Γ S = (a Γ S).bind fun v S1 => (b Γ S1).bind fun w S2 => match intOf v with
  | some i => match intOf w with
    | some j => pick (decide ((-(2 ^ 62) ≤ i ∧ i < 2 ^ 62) ∧ (-(2 ^ 62) ≤ j ∧ j < 2 ^ 62))) (.ok (.its (rngIts i (j - i).toNat)) S2) .bad
    | none => .bad
  | none => .bad := by
  unfold sRng2 pick
  simp only [decide_eq_true_eq]
  all_goals rfl
theorem x_compN {vs : List Nat} {it : SI} {tg : Tg} {tst : ST} {elt : SE} : sCompN vs it tg tst elt Γ S = (it Γ S).bind fun src S1 =>
  pick (decide (fuelOf src ≤ SZ)) ((cloop tg tst elt (wipeE Γ vs) src (fuelOf src) 0 S1).bind fun r S2 => .ok (.o S2.length) (S2 ++ [.lst r])) .bad := by
  unfold sCompN pick
  simp only [decide_eq_true_eq]
theorem x_comp {vs : List Nat} {it : SI} {tg : Tg} {tst : ST} {elt : SE} : sComp vs it tg tst elt Γ S = (it Γ S).bind fun src S1 =>
  pick (decide (fuelOf src ≤ SZ)) ((cloop tg tst elt (wipeE Γ vs) src (fuelOf src) 0 S1).bind fun r S2 => .ok (.d (.list r)) S2) .bad := by
  unfold sComp pick
  simp only [decide_eq_true_eq]
end

/-! ### loops over items -/
section
variable {tg : Tg} {b : SS} {tst : ST} {elt : SE}
theorem Sat_floop_at {all : List PyData} {Q : Fl → Sto → Prop} (I : List PyData → Env → Sto → Prop)
    (step : ∀ d rest Γ S, I (d :: rest) Γ S → ∃ Γ2, tg d Γ = some Γ2 ∧ (b Γ2 S).Sat fun fl S' => match fl with
      | .nx Γ' => I rest Γ' S'
      | .ct Γ' => I rest Γ' S'
      | .bk Γ' => Q (.nx Γ') S'
      | .rt v => Q (.rt v) S')
    (done : ∀ Γ S, I [] Γ S → Q (.nx Γ) S) : ∀ (n i : Nat) (Γ : Env) (S : Sto), i ≤ all.length → all.length - i < n → I (all.drop i) Γ S → (floop tg b (.its all) n i Γ S).Sat Q
  | 0, i, Γ, S, h0, h1, h2 => absurd h1 (Nat.not_lt_zero _)
  | n + 1, i, Γ, S, h0, h1, h2 => by
    unfold floop
    by_cases hi : i < all.length
    · rw [List.drop_eq_getElem_cons hi] at h2
      obtain ⟨Γ2, e1, e2⟩ := step _ _ _ _ h2
      simp only [nxt, List.getElem?_eq_getElem hi, e1]
      refine e2.bind fun fl S' h => ?_
      cases fl with
      | nx Γ' => exact Sat_floop_at I step done n (i + 1) Γ' S' hi (by omega) h
      | ct Γ' => exact Sat_floop_at I step done n (i + 1) Γ' S' hi (by omega) h
      | bk Γ' => exact h
      | rt v => exact h
    · have e : i = all.length := by omega
      subst e
      rw [List.drop_length] at h2
      simp only [nxt, List.getElem?_eq_none (Nat.le_refl _)]
      exact done _ _ h2
/-- a for over items: I by what is left -/
theorem Sat_for {all : List PyData} {Q : Fl → Sto → Prop} {Γ : Env} {S : Sto} (I : List PyData → Env → Sto → Prop) (h0 : I all Γ S)
    (step : ∀ d rest Γ S, I (d :: rest) Γ S → ∃ Γ2, tg d Γ = some Γ2 ∧ (b Γ2 S).Sat fun fl S' => match fl with
      | .nx Γ' => I rest Γ' S'
      | .ct Γ' => I rest Γ' S'
      | .bk Γ' => Q (.nx Γ') S'
      | .rt v => Q (.rt v) S')
    (done : ∀ Γ S, I [] Γ S → Q (.nx Γ) S) : (floop tg b (.its all) (fuelOf (.its all)) 0 Γ S).Sat Q :=
  Sat_floop_at I step done _ 0 Γ S (Nat.zero_le _) (Nat.lt_succ_self _) h0
theorem Sat_cloop_at {all : List PyData} {Γ : Env} {Q : List PyData → Sto → Prop} (I : List PyData → List PyData → Sto → Prop)
    (step : ∀ d rest acc S, I (d :: rest) acc S → ∃ Γ2, tg d Γ = some Γ2 ∧ (tst Γ2 S).Sat fun k S1 => (pick k ((elt Γ2 S1).bind fun v S2 => .ok (some v) S2) (.ok none S1)).Sat fun o S2 => match o with
      | some (.d y) => I rest (acc ++ [y]) S2
      | some _ => False
      | none => I rest acc S2)
    (done : ∀ acc S, I [] acc S → Q acc S) : ∀ (n i : Nat) (acc : List PyData) (S : Sto), i ≤ all.length → all.length - i < n → I (all.drop i) acc S → (cloop tg tst elt Γ (.its all) n i S).Sat fun r S' => Q (acc ++ r) S'
  | 0, i, Γ, S, h0, h1, h2 => absurd h1 (Nat.not_lt_zero _)
  | n + 1, i, acc, S, h0, h1, h2 => by
    unfold cloop
    by_cases hi : i < all.length
    · rw [List.drop_eq_getElem_cons hi] at h2
      obtain ⟨Γ2, e1, e2⟩ := step _ _ _ _ h2
      simp only [nxt, List.getElem?_eq_getElem hi, e1]
      refine e2.bind fun k S1 h => ?_
      cases k with
      | true =>
        rw [if_pos rfl]
        rw [pick_t, Sat_bind] at h
        refine h.bind fun v S2 h => ?_
        cases v with
        | d y =>
          refine (Sat_cloop_at I step done n (i + 1) (acc ++ [y]) S2 hi (by omega) h).bind fun r S3 h => ?_
          show Q (acc ++ y :: r) S3
          rw [List.append_assoc] at h
          exact h
        | o m => exact h.elim
        | k ds => exact h.elim
      | false =>
        rw [if_neg Bool.false_ne_true]
        exact Sat_cloop_at I step done n (i + 1) acc S1 hi (by omega) h
    · have e : i = all.length := by omega
      subst e
      rw [List.drop_length] at h2
      simp only [nxt, List.getElem?_eq_none (Nat.le_refl _)]
      show Q (acc ++ []) S
      rw [List.append_nil]
      exact done _ _ h2
/-- a comprehension over items: I by what is left and what is made -/
theorem Sat_comp {all : List PyData} {Γ : Env} {S : Sto} {Q : List PyData → Sto → Prop} (I : List PyData → List PyData → Sto → Prop) (h0 : I all [] S)
    (step : ∀ d rest acc S, I (d :: rest) acc S → ∃ Γ2, tg d Γ = some Γ2 ∧ (tst Γ2 S).Sat fun k S1 => (pick k ((elt Γ2 S1).bind fun v S2 => .ok (some v) S2) (.ok none S1)).Sat fun o S2 => match o with
      | some (.d y) => I rest (acc ++ [y]) S2
      | some _ => False
      | none => I rest acc S2)
    (done : ∀ acc S, I [] acc S → Q acc S) : (cloop tg tst elt Γ (.its all) (fuelOf (.its all)) 0 S).Sat Q :=
  (Sat_cloop_at I step done _ 0 [] S (Nat.zero_le _) (Nat.lt_succ_self _) h0).mono fun a S h => by rwa [List.nil_append] at h
end

/-! ### defs -/
theorem Sat_fn {body : SS} {np nN : Nat} {keep : Bool} {vs : List Vl} {S : Sto} {Q : Vl → Sto → Prop} (hl : vs.length = np) (h : (body (vs.map some ++ List.replicate (nN - np) none) S).Sat fun fl S' => match fl with
      | .rt v => (fin keep S.length v S').Sat Q
      | .nx _ => (fin keep S.length (.d .none) S').Sat Q
      | _ => False) : (fnSem body np nN keep vs S).Sat Q := by
  unfold fnSem
  rw [if_pos hl]
  revert h
  generalize body (vs.map some ++ List.replicate (nN - np) none) S = r
  intro h
  cases r with
  | bad => exact h.elim
  | ok fl S' =>
    cases fl with
    | rt v => exact h
    | nx Γ => exact h
    | bk Γ => exact h.elim
    | ct Γ => exact h.elim
end L2.Pv

set_option Elab.async false
set_option linter.all false
set_option maxRecDepth 100000
namespace L2.Pv
open PySem PySem.Spec PyProof.Rows L2

theorem bind_assoc {α β γ : Type} {r : R α} {f : α → Sto → R β} {g : β → Sto → R γ} : (r.bind f).bind g = r.bind fun a S => (f a S).bind g := by cases r <;> rfl
/-! ### data -/
section
variable {S : Sto}
theorem v_bool {b : Bool} : boolOf (.d (.bool b)) = some b := rfl
theorem v_int {i : Int} : intOf (.d (.int i)) = some i := rfl
theorem v_dat2 {h : PyData → PyData → Option PyData} {a b : PyData} : dat2 h (.d a) (.d b) S = lft S (h a b) := rfl
theorem v_cmp2 {h : PyData → PyData → Option PyData} {a b : PyData} : cmp2 h (.d a) (.d b) S = lft S (h a b) := rfl
theorem v_cmpO {h : PyData → PyData → Option PyData} {n : Nat} {b : PyData} : cmp2 h (.o n) (.d b) S = match lstOf S n with | some ds => lft S (h (.list ds) b) | none => .bad := by
  cases e : lstOf S n <;> simp only [cmp2, rdV, e, Option.map]
theorem v_cmpP {h : PyData → PyData → Option PyData} {n : Nat} {b : PyData} : cmp2 h (.d b) (.o n) S = match lstOf S n with | some ds => lft S (h b (.list ds)) | none => .bad := by
  cases e : lstOf S n <;> simp only [cmp2, rdV, e, Option.map]
theorem v_dat1 {h : PyData → Option PyData} {a : PyData} : dat1 h (.d a) S = lft S (h a) := rfl
theorem v_lft {c : PyData} : lft S (some c) = .ok (.d c) S := rfl
theorem v_arg1 {g : G1} {a : Vl} : arg1 g [a] S = g a S := rfl
theorem v_arg2 {g : G2} {a b : Vl} : arg2 g [a, b] S = g a b S := rfl
theorem v_gAdd {a b : PyData} : gAdd (.d a) (.d b) S = lft S (dAdd a b) := rfl
theorem v_gAddO {n : Nat} {b : List PyData} : gAdd (.o n) (.d (.list b)) S = addL S (lstOf S n) (some b) := rfl
theorem v_gAddP {n : Nat} {b : List PyData} : gAdd (.d (.list b)) (.o n) S = addL S (some b) (lstOf S n) := rfl
theorem v_gAddQ {n m : Nat} : gAdd (.o m) (.o n) S = addL S (lstOf S m) (lstOf S n) := rfl
theorem v_addLL {a b : List PyData} : addL S (some a) (some b) = pick (decide (a.length + b.length ≤ SZ)) (.ok (.d (.list (a ++ b))) S) .bad := by simp only [addL, pick, decide_eq_true_eq]
theorem v_listN {ds : List PyData} : gListN (.d (.list ds)) S = .ok (.o S.length) (S ++ [.lst ds]) := rfl
theorem v_listNT {ds : List PyData} : gListN (.d (.tuple ds)) S = .ok (.o S.length) (S ++ [.lst ds]) := rfl
theorem v_listNO {n : Nat} : gListN (.o n) S = match lstOf S n with | some ds => .ok (.o S.length) (S ++ [.lst ds]) | none => .bad := by
  show (match (lstOf S n).map Sq.l with | some (.l ds) => _ | some (.t ds) => _ | none => _) = _
  cases lstOf S n <;> rfl
theorem v_split {a b : Str} : gSplit (.d (.str a)) [.d (.str b)] S = pick (decide ((b.length == 0) = false ∧ a.length + 2 ≤ SZ)) (.ok (.d (.list ((Txt.split a b).map .str))) S) .bad := by
  show (if _ then _ else _) = _
  simp only [pick, decide_eq_true_eq]
theorem v_addI {i j : Int} : dAdd (.int i) (.int j) = some (.int (i + j)) := rfl
theorem v_addS {a b : Str} : dAdd (.str a) (.str b) = pick (decide (a.length + b.length ≤ SZ)) (some (.str (a ++ b))) none := by simp only [dAdd, pick, decide_eq_true_eq]
theorem v_addT {a b : List PyData} : dAdd (.tuple a) (.tuple b) = pick (decide (a.length + b.length ≤ SZ)) (some (.tuple (a ++ b))) none := by simp only [dAdd, pick, decide_eq_true_eq]
theorem v_addL {a b : List PyData} : dAdd (.list a) (.list b) = pick (decide (a.length + b.length ≤ SZ)) (some (.list (a ++ b))) none := by simp only [dAdd, pick, decide_eq_true_eq]
theorem v_subI {i j : Int} : dSub (.int i) (.int j) = some (.int (i - j)) := rfl
theorem w_mulI {i j : Int} : dMul (.int i) (.int j) = pick (decide ((-(2 ^ 64) < i ∧ i < 2 ^ 64) ∨ (-(2 ^ 64) < j ∧ j < 2 ^ 64))) (some (.int (i * j))) none := by simp only [dMul, pick, decide_eq_true_eq]
theorem v_mulS {x : Str} {n : Int} (h : x.length * n.toNat ≤ SZ) (h1 : -(2 ^ 63) ≤ n) (h2 : n < 2 ^ 63) : dMul (.str x) (.int n) = some (.str (strRep x n)) := by simp only [dMul, if_pos (show x.length * n.toNat ≤ SZ ∧ -(2 ^ 63) ≤ n ∧ n < 2 ^ 63 from ⟨h, h1, h2⟩)]
theorem v_mulLs {x : List PyData} {n : Int} (h : x.length * n.toNat ≤ SZ) (h1 : -(2 ^ 63) ≤ n) (h2 : n < 2 ^ 63) : dMul (.list x) (.int n) = some (.list (List.replicate n.toNat x).flatten) := by simp only [dMul, if_pos (show x.length * n.toNat ≤ SZ ∧ -(2 ^ 63) ≤ n ∧ n < 2 ^ 63 from ⟨h, h1, h2⟩)]
theorem w_fdiv {i j : Int} : dFdiv (.int i) (.int j) = pick (decide (0 < j ∧ j < 18446744073709551616)) (some (.int (i / j))) none := by simp only [dFdiv, pick, decide_eq_true_eq]
theorem w_mod {i j : Int} : dMod (.int i) (.int j) = pick (decide (0 < j)) (some (.int (i % j))) none := by simp only [dMod, pick, decide_eq_true_eq]
theorem v_modP {i j : Int} (h : 0 < j) : dMod (.int i) (.int j) = some (.int (i % j)) := by rw [w_mod, decide_eq_true h]; rfl
theorem v_fdivP {i j : Int} (h : 0 < j) (h2 : j < 18446744073709551616) : dFdiv (.int i) (.int j) = some (.int (i / j)) := by rw [w_fdiv, decide_eq_true ⟨h, h2⟩]; rfl
theorem v_mulR {i j : Int} (h : -(2 ^ 64) < j) (h2 : j < 2 ^ 64) : dMul (.int i) (.int j) = some (.int (i * j)) := by rw [w_mulI, decide_eq_true (.inr ⟨h, h2⟩)]; rfl
theorem v_mulL {i j : Int} (h : -(2 ^ 64) < i) (h2 : i < 2 ^ 64) : dMul (.int i) (.int j) = some (.int (i * j)) := by rw [w_mulI, decide_eq_true (.inl ⟨h, h2⟩)]; rfl
theorem v_neg {i : Int} : dNeg (.int i) = some (.int (-i)) := rfl
theorem v_intI {i : Int} : dInt (.int i) = some (.int i) := rfl
theorem v_intB {b : Bool} : dInt (.bool b) = some (.int (if b then 1 else 0)) := rfl
theorem v_abs {i : Int} : dAbs (.int i) = some (.int (if i < 0 then -i else i)) := rfl
theorem v_max {i j : Int} : dMax (.int i) (.int j) = some (.int (if j > i then j else i)) := rfl
theorem v_min {i j : Int} : dMin (.int i) (.int j) = some (.int (if j < i then j else i)) := rfl
theorem v_lenL {ds : List PyData} : gLen (.d (.list ds)) S = .ok (.d (.int ds.length)) S := rfl
theorem v_lenT {ds : List PyData} : gLen (.d (.tuple ds)) S = .ok (.d (.int ds.length)) S := rfl
theorem v_lenK {ds : List PyData} : gLen (.k ds) S = .ok (.d (.int ds.length)) S := rfl
theorem v_lenO {n : Nat} : gLen (.o n) S = match lstOf S n with | some ds => .ok (.d (.int ds.length)) S | none => .bad := by
  show (match (lstOf S n).map Sq.l with | some (.l ds) => _ | some (.t ds) => _ | none => _) = _
  cases lstOf S n <;> rfl
theorem v_lenS {z : Str} : gLen (.d (.str z)) S = pick (decide (z.length ≤ SZ)) (.ok (.d (.int z.length)) S) .bad := by
  show (if z.length ≤ SZ then _ else _) = _
  simp only [pick, decide_eq_true_eq]
theorem v_ixL {ds : List PyData} {i : Int} : gIx (.d (.list ds)) (.d (.int i)) S = lft S (atI ds i) := rfl
theorem v_ixT {ds : List PyData} {i : Int} : gIx (.d (.tuple ds)) (.d (.int i)) S = lft S (atI ds i) := rfl
theorem v_ixK {ds : List PyData} {i : Int} : gIx (.k ds) (.d (.int i)) S = lft S (atI ds i) := rfl
theorem v_ixO {n : Nat} {i : Int} : gIx (.o n) (.d (.int i)) S = match lstOf S n with | some ds => lft S (atI ds i) | none => .bad := by
  show (match (lstOf S n).map Sq.l with | some (.l ds) => _ | some (.t ds) => _ | none => _) = _
  cases lstOf S n <;> rfl
theorem v_ixS {z : Str} {i : Int} : gIx (.d (.str z)) (.d (.int i)) S = pick (decide (z.length ≤ SZ)) (lft S ((atI z.cps.toList i).map fun c => .str ⟨#[c]⟩)) .bad := by
  show (if z.length ≤ SZ then _ else _) = _
  simp only [pick, decide_eq_true_eq]
theorem v_slL {ds : List PyData} {lo hi : Option Int} : gSl (.d (.list ds)) lo hi S = .ok (.d (.list (cutD ds lo hi))) S := rfl
theorem v_slT {ds : List PyData} {lo hi : Option Int} : gSl (.d (.tuple ds)) lo hi S = .ok (.d (.tuple (cutD ds lo hi))) S := rfl
theorem v_slK {ds : List PyData} {lo hi : Option Int} : gSl (.k ds) lo hi S = .ok (.d (.list (cutD ds lo hi))) S := rfl
theorem v_slS {z : Str} {lo hi : Option Int} : gSl (.d (.str z)) lo hi S = pick (decide (z.length ≤ SZ)) (.ok (.d (.str ⟨(cutD z.cps.toList lo hi).toArray⟩)) S) .bad := by
  show (if z.length ≤ SZ then _ else _) = _
  simp only [pick, decide_eq_true_eq]
theorem v_listL {ds : List PyData} : gList (.d (.list ds)) S = .ok (.d (.list ds)) S := rfl
theorem v_listT {ds : List PyData} : gList (.d (.tuple ds)) S = .ok (.d (.list ds)) S := rfl
theorem v_listK {ds : List PyData} : gList (.k ds) S = .ok (.d (.list ds)) S := rfl
theorem v_tupL {ds : List PyData} : gTuple (.d (.list ds)) S = .ok (.d (.tuple ds)) S := rfl
theorem v_tupT {ds : List PyData} : gTuple (.d (.tuple ds)) S = .ok (.d (.tuple ds)) S := rfl
theorem v_tupK {ds : List PyData} : gTuple (.k ds) S = .ok (.d (.tuple ds)) S := rfl
theorem v_tupO {n : Nat} : gTuple (.o n) S = match lstOf S n with | some ds => .ok (.d (.tuple ds)) S | none => .bad := by
  show (match (lstOf S n).map Sq.l with | some (.l ds) => _ | some (.t ds) => _ | none => _) = _
  cases lstOf S n <;> rfl
theorem v_listO {n : Nat} : gList (.o n) S = match lstOf S n with | some ds => .ok (.d (.list ds)) S | none => .bad := by
  show (match (lstOf S n).map Sq.l with | some (.l ds) => _ | some (.t ds) => _ | none => _) = _
  cases lstOf S n <;> rfl
theorem v_slO {n : Nat} {lo hi : Option Int} : gSl (.o n) lo hi S = match lstOf S n with | some ds => .ok (.d (.list (cutD ds lo hi))) S | none => .bad := by
  show (match (lstOf S n).map Sq.l with | some (.l ds) => _ | some (.t ds) => _ | none => _) = _
  cases lstOf S n <;> rfl
theorem v_allL {ds : List PyData} : gAll (.d (.list ds)) S = match boolsOf ds with | some bs => .ok (.d (.bool (bs.all id))) S | none => .bad := rfl
theorem v_anyL {ds : List PyData} : gAny (.d (.list ds)) S = match boolsOf ds with | some bs => .ok (.d (.bool (bs.any id))) S | none => .bad := rfl
theorem v_isiN {T : String} : gIsi T (.d .none) S = .ok (.d (.bool (isiB "NoneType" T))) S := rfl
theorem v_isiB {T : String} {b : Bool} : gIsi T (.d (.bool b)) S = .ok (.d (.bool (isiB "bool" T))) S := rfl
theorem v_isiI {T : String} {i : Int} : gIsi T (.d (.int i)) S = .ok (.d (.bool (isiB "int" T))) S := rfl
theorem v_isiS {T : String} {x : Str} : gIsi T (.d (.str x)) S = .ok (.d (.bool (isiB "str" T))) S := rfl
theorem v_isiL {T : String} {ds : List PyData} : gIsi T (.d (.list ds)) S = .ok (.d (.bool (isiB "list" T))) S := rfl
theorem v_isiT {T : String} {ds : List PyData} : gIsi T (.d (.tuple ds)) S = .ok (.d (.bool (isiB "tuple" T))) S := rfl
theorem isi_tab : isiB "NoneType" "tuple" = false ∧ isiB "NoneType" "str" = false ∧ isiB "NoneType" "int" = false ∧ isiB "NoneType" "bool" = false ∧ isiB "NoneType" "list" = false
  ∧ isiB "bool" "tuple" = false ∧ isiB "bool" "str" = false ∧ isiB "bool" "int" = true ∧ isiB "bool" "bool" = true ∧ isiB "bool" "list" = false
  ∧ isiB "int" "tuple" = false ∧ isiB "int" "str" = false ∧ isiB "int" "int" = true ∧ isiB "int" "bool" = false ∧ isiB "int" "list" = false
  ∧ isiB "str" "tuple" = false ∧ isiB "str" "str" = true ∧ isiB "str" "int" = false ∧ isiB "str" "bool" = false ∧ isiB "str" "list" = false
  ∧ isiB "list" "tuple" = false ∧ isiB "list" "str" = false ∧ isiB "list" "int" = false ∧ isiB "list" "bool" = false ∧ isiB "list" "list" = true
  ∧ isiB "tuple" "tuple" = true ∧ isiB "tuple" "str" = false ∧ isiB "tuple" "int" = false ∧ isiB "tuple" "bool" = false ∧ isiB "tuple" "list" = false := by decide +kernel
theorem v_truB {b : Bool} : gTru (.d (.bool b)) S = some b := rfl
theorem v_isN0 {neg : Bool} : gIsN neg (.d .none) (.d .none) S = .ok (.d (.bool (!neg))) S := rfl
theorem v_isNB {neg b : Bool} : gIsN neg (.d (.bool b)) (.d .none) S = .ok (.d (.bool neg)) S := rfl
theorem v_isNI {neg : Bool} {i : Int} : gIsN neg (.d (.int i)) (.d .none) S = .ok (.d (.bool neg)) S := rfl
theorem v_isNS {neg : Bool} {x : Str} : gIsN neg (.d (.str x)) (.d .none) S = .ok (.d (.bool neg)) S := rfl
theorem v_isNL {neg : Bool} {ds : List PyData} : gIsN neg (.d (.list ds)) (.d .none) S = .ok (.d (.bool neg)) S := rfl
theorem v_isNT {neg : Bool} {ds : List PyData} : gIsN neg (.d (.tuple ds)) (.d .none) S = .ok (.d (.bool neg)) S := rfl
theorem v_pow18 : dPow (.int 10) (.int 18) = some (.int 1000000000000000000) := rfl
theorem v_ltI {i j : Int} : dLt (.int i) (.int j) = some (.bool (decide (i < j))) := rfl
theorem v_gtI {i j : Int} : dGt (.int i) (.int j) = some (.bool (decide (j < i))) := rfl
theorem v_leI {i j : Int} : dLe (.int i) (.int j) = some (.bool (decide (i ≤ j))) := by
  show some (PyData.bool (!decide (j < i))) = _
  by_cases h : j < i
  · rw [decide_eq_true h, decide_eq_false (by omega)]; rfl
  · rw [decide_eq_false h, decide_eq_true (by omega)]; rfl
theorem v_geI {i j : Int} : dGe (.int i) (.int j) = some (.bool (decide (j ≤ i))) := by
  show some (PyData.bool (!decide (i < j))) = _
  by_cases h : i < j
  · rw [decide_eq_true h, decide_eq_false (by omega)]; rfl
  · rw [decide_eq_false h, decide_eq_true (by omega)]; rfl
theorem v_ltS {a b : Str} : dLt (.str a) (.str b) = some (.bool (decide (a.cps.toList < b.cps.toList))) := rfl
theorem v_gtS {a b : Str} : dGt (.str a) (.str b) = some (.bool (decide (b.cps.toList < a.cps.toList))) := rfl
theorem v_eqI {i j : Int} : dEq (.int i) (.int j) = some (.bool (decide (i = j))) := rfl
theorem v_eqS {a b : Str} : dEq (.str a) (.str b) = some (.bool (decide (a = b))) := rfl
theorem v_eqB {a b : Bool} : dEq (.bool a) (.bool b) = some (.bool (decide (a = b))) := rfl
theorem v_neI {i j : Int} : dNe (.int i) (.int j) = some (.bool (!decide (i = j))) := rfl
theorem v_neS {a b : Str} : dNe (.str a) (.str b) = some (.bool (!decide (a = b))) := rfl
theorem v_neB {a b : Bool} : dNe (.bool a) (.bool b) = some (.bool (!decide (a = b))) := rfl
theorem v_inC {c : Nat} {z : Str} : dIn (.str ⟨#[c]⟩) (.str z) = some (.bool (decide (c ∈ z.cps.toList))) := rfl
theorem v_ninC {c : Nat} {z : Str} : dNotIn (.str ⟨#[c]⟩) (.str z) = some (.bool (!decide (c ∈ z.cps.toList))) := rfl
end
theorem mapO_some {α β : Type} {f : α → β} {a : α} : Option.map f (some a) = some (f a) := rfl
theorem mapO_none {α β : Type} {f : α → β} : Option.map f (none : Option α) = none := rfl
theorem dec_true {p : Prop} [Decidable p] (h : p) : decide p = true := decide_eq_true h
theorem dec_false {p : Prop} [Decidable p] (h : ¬p) : decide p = false := decide_eq_false h
end L2.Pv

set_option Elab.async false
set_option linter.all false
set_option maxRecDepth 100000
namespace L2.Pv
open PySem PySem.Spec PyProof.Rows L2
/-! ### one step after the other -/
theorem l_get0 {α : Type} {a : α} {l : List α} : (a :: l)[0]? = some a := rfl
theorem l_getS {α : Type} {a : α} {l : List α} {n : Nat} : (a :: l)[n + 1]? = l[n]? := rfl
theorem l_set0 {α : Type} {a b : α} {l : List α} : (a :: l).set 0 b = b :: l := rfl
theorem l_setS {α : Type} {a b : α} {l : List α} {n : Nat} : (a :: l).set (n + 1) b = a :: l.set n b := rfl
theorem l_wipe0 {Γ : Env} : wipeE Γ [] = Γ := rfl
theorem l_wipe {Γ : Env} {v : Nat} {vs : List Nat} : wipeE Γ (v :: vs) = (wipeE Γ vs).set v none := rfl
theorem l_datas0 : datas [] = some [] := rfl
theorem l_datas {d : PyData} {r : List Vl} : datas (.d d :: r) = (datas r).map (d :: ·) := rfl
theorem l_tup {S : Sto} {vs : List Vl} : gTup vs S = match datas vs with | some ds => pick (decide (ds.length ≤ SZ)) (.ok (.d (.tuple ds)) S) .bad | none => .bad := by
  unfold gTup pick
  simp only [decide_eq_true_eq]
  all_goals rfl
theorem l_lst {S : Sto} {vs : List Vl} : gLst vs S = match datas vs with | some ds => pick (decide (ds.length ≤ SZ)) (.ok (.d (.list ds)) S) .bad | none => .bad := by
  unfold gLst pick
  simp only [decide_eq_true_eq]
  all_goals rfl
theorem l_new {S : Sto} {vs : List Vl} : gNew vs S = match datas vs with | some ds => pick (decide (ds.length ≤ SZ)) (.ok (.o S.length) (S ++ [.lst ds])) .bad | none => .bad := by
  unfold gNew pick
  simp only [decide_eq_true_eq]
  all_goals rfl
theorem l_put {n : Nat} {k : Int} {d : PyData} {S : Sto} : gPut (.o n) (.d (.int k)) (.d d) S = match lstOf S n with | some ds => (ixN ds.length k).map fun j => S.set n (.lst (ds.set j d)) | none => none := rfl
theorem l_srcL {S : Sto} {ds : List PyData} : srcOf S (.d (.list ds)) = some (.its ds) := rfl
theorem l_srcT {S : Sto} {ds : List PyData} : srcOf S (.d (.tuple ds)) = some (.its ds) := rfl
theorem l_srcS {S : Sto} {z : Str} : srcOf S (.d (.str z)) = some (.its (strIts z)) := rfl
theorem l_srcK {S : Sto} {ds : List PyData} : srcOf S (.k ds) = some (.its ds) := rfl
theorem l_tnm {i : Nat} {d : PyData} {Γ : Env} : tNm i d Γ = some (Γ.set i (some (.d d))) := rfl
theorem l_at0 {α : Type} {a0 : α} {l : List α} : atI (a0 :: l) 0 = some a0 := by
  unfold atI ixN
  rw [if_pos (by omega), if_pos (by simp only [List.length_cons]; omega)]
  rfl
theorem l_ixn0 {n : Nat} : ixN (n + 1) 0 = some 0 := by
  unfold ixN
  rw [if_pos (by omega), if_pos (by omega)]
  rfl
theorem l_at1 {α : Type} {a0 a1 : α} {l : List α} : atI (a0 :: a1 :: l) 1 = some a1 := by
  unfold atI ixN
  rw [if_pos (by omega), if_pos (by simp only [List.length_cons]; omega)]
  rfl
theorem l_ixn1 {n : Nat} : ixN (n + 1 + 1) 1 = some 1 := by
  unfold ixN
  rw [if_pos (by omega), if_pos (by omega)]
  rfl
theorem l_at2 {α : Type} {a0 a1 a2 : α} {l : List α} : atI (a0 :: a1 :: a2 :: l) 2 = some a2 := by
  unfold atI ixN
  rw [if_pos (by omega), if_pos (by simp only [List.length_cons]; omega)]
  rfl
theorem l_ixn2 {n : Nat} : ixN (n + 1 + 1 + 1) 2 = some 2 := by
  unfold ixN
  rw [if_pos (by omega), if_pos (by omega)]
  rfl
theorem l_at3 {α : Type} {a0 a1 a2 a3 : α} {l : List α} : atI (a0 :: a1 :: a2 :: a3 :: l) 3 = some a3 := by
  unfold atI ixN
  rw [if_pos (by omega), if_pos (by simp only [List.length_cons]; omega)]
  rfl
theorem l_ixn3 {n : Nat} : ixN (n + 1 + 1 + 1 + 1) 3 = some 3 := by
  unfold ixN
  rw [if_pos (by omega), if_pos (by omega)]
  rfl
theorem l_at4 {α : Type} {a0 a1 a2 a3 a4 : α} {l : List α} : atI (a0 :: a1 :: a2 :: a3 :: a4 :: l) 4 = some a4 := by
  unfold atI ixN
  rw [if_pos (by omega), if_pos (by simp only [List.length_cons]; omega)]
  rfl
theorem l_ixn4 {n : Nat} : ixN (n + 1 + 1 + 1 + 1 + 1) 4 = some 4 := by
  unfold ixN
  rw [if_pos (by omega), if_pos (by omega)]
  rfl
theorem l_at5 {α : Type} {a0 a1 a2 a3 a4 a5 : α} {l : List α} : atI (a0 :: a1 :: a2 :: a3 :: a4 :: a5 :: l) 5 = some a5 := by
  unfold atI ixN
  rw [if_pos (by omega), if_pos (by simp only [List.length_cons]; omega)]
  rfl
theorem l_ixn5 {n : Nat} : ixN (n + 1 + 1 + 1 + 1 + 1 + 1) 5 = some 5 := by
  unfold ixN
  rw [if_pos (by omega), if_pos (by omega)]
  rfl
theorem l_at6 {α : Type} {a0 a1 a2 a3 a4 a5 a6 : α} {l : List α} : atI (a0 :: a1 :: a2 :: a3 :: a4 :: a5 :: a6 :: l) 6 = some a6 := by
  unfold atI ixN
  rw [if_pos (by omega), if_pos (by simp only [List.length_cons]; omega)]
  rfl
theorem l_ixn6 {n : Nat} : ixN (n + 1 + 1 + 1 + 1 + 1 + 1 + 1) 6 = some 6 := by
  unfold ixN
  rw [if_pos (by omega), if_pos (by omega)]
  rfl
theorem l_at7 {α : Type} {a0 a1 a2 a3 a4 a5 a6 a7 : α} {l : List α} : atI (a0 :: a1 :: a2 :: a3 :: a4 :: a5 :: a6 :: a7 :: l) 7 = some a7 := by
  unfold atI ixN
  rw [if_pos (by omega), if_pos (by simp only [List.length_cons]; omega)]
  rfl
theorem l_ixn7 {n : Nat} : ixN (n + 1 + 1 + 1 + 1 + 1 + 1 + 1 + 1) 7 = some 7 := by
  unfold ixN
  rw [if_pos (by omega), if_pos (by omega)]
  rfl
theorem l_len0 {α : Type} : ([] : List α).length = 0 := rfl
theorem l_lenC {α : Type} {a : α} {l : List α} : (a :: l).length = l.length + 1 := rfl
theorem l_dT {h : Decidable True} : @decide True h = true := decide_eq_true trivial
theorem l_dF {h : Decidable False} : @decide False h = false := decide_eq_false id
theorem l_nT : (!true) = false := rfl
theorem l_nF : (!false) = true := rfl
theorem l_le {a : Nat} {k : Nat} : (a + 1 ≤ k + 1) = (a ≤ k) := by simp
theorem l_sz {a : Nat} (h : a ≤ 1000) : decide (a ≤ SZ) = true := decide_eq_true (Nat.le_trans h (by decide))
theorem l_ixO {n : Nat} {l : List PyData} {S : Sto} {i : Int} (h : lstOf S n = some l) : gIx (.o n) (.d (.int i)) S = lft S (atI l i) := by rw [v_ixO, h]
theorem l_lst0 {ds : List PyData} {S : Sto} : lstOf (.lst ds :: S) 0 = some ds := rfl
theorem l_lstS {o : Ob} {S : Sto} {n : Nat} : lstOf (o :: S) (n + 1) = lstOf S n := rfl
theorem lst_lt {S : Sto} {n : Nat} {ds : List PyData} (h : lstOf S n = some ds) : n < S.length := by
  have h := lstOf_ok h
  exact (List.getElem?_eq_some_iff.mp h).1
theorem lst_set {S : Sto} {n : Nat} {ds es : List PyData} (h : lstOf S n = some ds) : lstOf (S.set n (.lst es)) n = some es := by
  unfold lstOf
  rw [List.getElem?_set_self (lst_lt h)]
theorem set_set {S : Sto} {n : Nat} {a b : Ob} : (S.set n a).set n b = S.set n b := by simp
def EV := And.intro @x_var (And.intro @x_con (And.intro @x_bin (And.intro @x_un (And.intro @x_args0 (And.intro @x_args (And.intro @x_call (And.intro @x_tst (And.intro @x_tru (And.intro @x_not (And.intro @x_and (And.intro @x_or (And.intro @x_if (And.intro @x_andV (And.intro @x_orV (And.intro @x_notV (And.intro @x_sl (And.intro @x_part0 (And.intro @x_part (And.intro @x_metO (And.intro @x_metS (And.intro @x_skip (And.intro @x_seq (And.intro @x_thenN (And.intro @x_thenR (And.intro @x_thenB (And.intro @x_thenC (And.intro @x_drop (And.intro @x_ret (And.intro @x_retN (And.intro @x_ite (And.intro @x_set (And.intro @x_asg (And.intro @x_brk (And.intro @x_cnt (And.intro @x_put (And.intro @x_for (And.intro @x_iter (And.intro @x_yes (And.intro @x_rng1 (And.intro @x_rng2 (And.intro @x_compN (And.intro @x_comp (And.intro @v_bool (And.intro @v_int (And.intro @v_dat2 (And.intro @v_cmp2 (And.intro @v_cmpO (And.intro @v_cmpP (And.intro @v_dat1 (And.intro @v_lft (And.intro @v_arg1 (And.intro @v_arg2 (And.intro @v_gAdd (And.intro @v_gAddO (And.intro @v_gAddP (And.intro @v_gAddQ (And.intro @v_addLL (And.intro @v_listN (And.intro @v_listNT (And.intro @v_listNO (And.intro @v_split (And.intro @v_addI (And.intro @v_addS (And.intro @v_addT (And.intro @v_addL (And.intro @v_subI (And.intro @v_mulS (And.intro @v_mulLs (And.intro @v_modP (And.intro @v_fdivP (And.intro @v_mulR (And.intro @v_mulL (And.intro @v_neg (And.intro @v_intI (And.intro @v_intB (And.intro @v_abs (And.intro @v_max (And.intro @v_min (And.intro @v_lenL (And.intro @v_lenT (And.intro @v_lenK (And.intro @v_lenO (And.intro @v_lenS (And.intro @v_ixL (And.intro @v_ixT (And.intro @v_ixK (And.intro @v_ixO (And.intro @v_ixS (And.intro @v_slL (And.intro @v_slT (And.intro @v_slK (And.intro @v_listL (And.intro @v_listT (And.intro @v_listK (And.intro @v_tupL (And.intro @v_tupT (And.intro @v_tupK (And.intro @v_tupO (And.intro @v_listO (And.intro @v_slO (And.intro @v_allL (And.intro @v_anyL (And.intro @v_isiN (And.intro @v_isiB (And.intro @v_isiI (And.intro @v_isiS (And.intro @v_isiL (And.intro @v_isiT (And.intro @v_truB (And.intro @v_isN0 (And.intro @v_isNB (And.intro @v_isNI (And.intro @v_isNS (And.intro @v_isNL (And.intro @v_isNT (And.intro @v_pow18 (And.intro @v_ltI (And.intro @v_gtI (And.intro @v_leI (And.intro @v_geI (And.intro @v_ltS (And.intro @v_gtS (And.intro @v_eqI (And.intro @v_eqS (And.intro @v_eqB (And.intro @v_neI (And.intro @v_neS (And.intro @v_neB (And.intro @v_inC (And.intro @v_ninC (And.intro @bind_okE (And.intro @bind_badE (And.intro @bind_assoc (And.intro @pick_t (And.intro @pick_f (And.intro @mapO_some (And.intro @mapO_none (And.intro @l_get0 (And.intro @l_getS (And.intro @l_set0 (And.intro @l_setS (And.intro @l_wipe0 (And.intro @l_wipe (And.intro @l_datas0 (And.intro @l_datas (And.intro @l_tup (And.intro @l_lst (And.intro @l_new (And.intro @l_put (And.intro @l_srcL (And.intro @l_srcT (And.intro @l_srcS (And.intro @l_srcK (And.intro @l_tnm (And.intro @l_at0 (And.intro @l_ixn0 (And.intro @l_at1 (And.intro @l_ixn1 (And.intro @l_at2 (And.intro @l_ixn2 (And.intro @l_at3 (And.intro @l_ixn3 (And.intro @l_at4 (And.intro @l_ixn4 (And.intro @l_at5 (And.intro @l_ixn5 (And.intro @l_at6 (And.intro @l_ixn6 (And.intro @l_at7 (And.intro @l_ixn7 (And.intro @l_len0 (And.intro @l_lenC (And.intro @l_dT (And.intro @l_dF (And.intro @l_nT (And.intro @l_nF (And.intro @l_lst0 (@l_lstS))))))))))))))))))))))))))))))))))))))))))))))))))))))))))))))))))))))))))))))))))))))))))))))))))))))))))))))))))))))))))))))))))))))))))))))))))))))))))))))))))))))))))))))))))

/-! ### a def's end -/
theorem Sat_end {keep : Bool} {n : Nat} {r : R Fl} {Q : Vl → Sto → Prop} : (fnEnd keep n r).Sat Q = r.Sat fun fl S' => match fl with
      | .rt v => (fin keep n v S').Sat Q
      | .nx _ => (fin keep n (.d .none) S').Sat Q
      | _ => False := by
  cases r with
  | bad => rfl
  | ok fl S' => cases fl <;> rfl
theorem fin_d {keep : Bool} {n : Nat} {d : PyData} {S : Sto} : fin keep n (.d d) S = .ok (.d d) (S.take n) := rfl
end L2.Pv

set_option Elab.async false
set_option linter.all false
set_option maxRecDepth 100000
namespace L2.Pv
open PySem PySem.Spec PyProof.Rows L2
/-! ### the tape -/
structure Tp (S : Sto) (t : Nat) : Prop where
  ex : ∃ (ns : List Int) (p c m : Int), lstOf S t = some [.list (ns.map .int), .int p, .int c, .int m] ∧ 0 ≤ p ∧ 0 ≤ c
structure Kp (t : Nat) (S S' : Sto) : Prop where
  tp : Tp S' t
  len : S'.length = S.length
  eq : ∀ j, j ≠ t → S'[j]? = S[j]?
theorem Kp.refl {t : Nat} {S : Sto} (h : Tp S t) : Kp t S S := ⟨h, rfl, fun _ _ => rfl⟩
theorem Kp.trans {t : Nat} {S S1 S2 : Sto} (a : Kp t S S1) (b : Kp t S1 S2) : Kp t S S2 := ⟨b.tp, b.len.trans a.len, fun j h => (b.eq j h).trans (a.eq j h)⟩
theorem Kp.set {t : Nat} {S : Sto} {ns : List Int} {p c m : Int} (h : t < S.length) (h1 : 0 ≤ p) (h2 : 0 ≤ c) : Kp t S (S.set t (.lst [.list (ns.map .int), .int p, .int c, .int m])) where
  tp := ⟨ns, p, c, m, by
    unfold lstOf
    rw [List.getElem?_set_self h], h1, h2⟩
  len := by simp
  eq := fun j hj => List.getElem?_set_ne (fun e => hj e.symm)
theorem Kp.take {t : Nat} {S S' : Sto} (a : Kp t S S') : S'.take S.length = S' := List.take_of_length_le (by rw [a.len]; exact Nat.le_refl _)
theorem take_all {S : Sto} : S.take S.length = S := List.take_length
/-- what a call that draws satisfies -/
def Gen (t : Nat) (S : Sto) (r : R Vl) (P : Vl → Prop) : Prop := r.Sat fun v S' => P v ∧ Kp t S S'
theorem Gen.mono {t : Nat} {S : Sto} {r : R Vl} {P P' : Vl → Prop} (h : Gen t S r P) (f : ∀ v, P v → P' v) : Gen t S r P' := R.Sat.mono h fun v S' ⟨a, b⟩ => ⟨f v a, b⟩
/-- a draw, then the rest -/
theorem Gen.then {β : Type} {t : Nat} {S0 S : Sto} {r : R Vl} {P : Vl → Prop} {f : Vl → Sto → R β} {Q : β → Sto → Prop} (hk : Kp t S0 S) (h : Gen t S r P) (k : ∀ v S', P v → Kp t S0 S' → (f v S').Sat Q) : (r.bind f).Sat Q :=
  R.Sat.bind h fun v S' ⟨a, b⟩ => k v S' a (hk.trans b)
/-- a def that draws -/
theorem Gen.end {t : Nat} {S : Sto} {r : R Fl} {P : Vl → Prop} (h : r.Sat fun fl S' => ∃ d, fl = .rt (.d d) ∧ P (.d d) ∧ Kp t S S') : Gen t S (fnEnd false S.length r) P := by
  unfold Gen
  rw [Sat_end]
  refine h.mono fun fl S' ⟨d, e, hp, hk⟩ => ?_
  subst e
  show P (.d d) ∧ Kp t S (S'.take S.length)
  rw [hk.take]
  exact ⟨hp, hk⟩
theorem int_nn {i : Int} : 0 ≤ (if i < 0 then -i else i) := by split <;> omega
theorem atI_map {ns : List Int} {i : Int} (h : 0 ≤ i) (h2 : i < ns.length) : ∃ x, atI (ns.map PyData.int) i = some (.int x) := by
  unfold atI ixN
  obtain ⟨j, rfl⟩ := Int.eq_ofNat_of_zero_le h
  have h3 : j < ns.length := by omega
  refine ⟨ns[j], ?_⟩
  simp [h3]
theorem Sat_pickOB {β : Type} {b : Bool} {x y : Option PyData} {S : Sto} {f : Vl → Sto → R β} {Q : β → Sto → Prop} (h1 : b = true → ((lft S x).bind f).Sat Q) (h2 : b = false → ((lft S y).bind f).Sat Q) : ((lft S (pick b x y)).bind f).Sat Q := by
  cases b
  · exact h2 rfl
  · exact h1 rfl
end L2.Pv

set_option Elab.async false
set_option linter.all false
set_option maxRecDepth 100000
namespace L2.Pv
open PySem PySem.Spec PyProof.Rows L2
/-! ### texts as lists of signs -/
def ts (x : Str) : List Nat := x.cps.toList
def mk (l : List Nat) : Str := ⟨l.toArray⟩
theorem ts_mk (l : List Nat) : ts (mk l) = l := by simp [ts, mk]
theorem mk_ts (x : Str) : mk (ts x) = x := by simp [ts, mk]
theorem str_ext {a b : Str} (h : ts a = ts b) : a = b := by rw [← mk_ts a, ← mk_ts b, h]
theorem ts_app (a b : Str) : ts (a ++ b) = ts a ++ ts b := by
  show (a.cps ++ b.cps).toList = _
  simp [ts]
theorem len_ts (x : Str) : x.length = (ts x).length := by
  show x.cps.size = x.cps.toList.length
  simp
theorem ts_empty : ts Str.empty = [] := rfl
theorem ts_join0 {a : Str} (ha : ts a = []) : ∀ zs : List Str, ts (Str.join a zs) = (zs.map ts).flatten
  | [] => rfl
  | [x] => by simp [Str.join]
  | x :: y :: r => by
    have ih := ts_join0 ha (y :: r)
    show ts (x ++ a ++ Str.join a (y :: r)) = _
    rw [ts_app, ts_app, ha, ih]
    simp
theorem len_app (a b : Str) : (a ++ b).length = a.length + b.length := by rw [len_ts, len_ts, len_ts, ts_app, List.length_append]
theorem len_join0 {a : Str} (ha : ts a = []) (zs : List Str) : (Str.join a zs).length = (zs.map (·.length)).sum := by
  rw [len_ts, ts_join0 ha, List.length_flatten, List.map_map]
  congr 1
theorem strs_map (zs : List Str) : strsOf (zs.map .str) = some zs := by
  induction zs with
  | nil => rfl
  | cons z r ih =>
    show (strsOf (r.map .str)).map (z :: ·) = _
    rw [ih]
    rfl
theorem sum_le {n : Nat} : ∀ {l : List Nat}, (∀ x ∈ l, x ≤ n) → l.sum ≤ l.length * n
  | [], _ => by simp
  | x :: r, h => by
    have := sum_le (l := r) fun y hy => h y (List.mem_cons_of_mem _ hy)
    have := h x List.mem_cons_self
    simp only [List.sum_cons, List.length_cons, Nat.add_mul]
    omega
/-- ''.join of texts -/
theorem j_join {a : Str} {zs : List Str} {S : Sto} {n : Nat} (ha : ts a = []) (h : ∀ z ∈ zs, z.length ≤ n) (hn : zs.length * n ≤ SZ) : gJoin (.d (.str a)) [.d (.list (zs.map .str))] S = .ok (.d (.str (Str.join a zs))) S := by
  have h1 : (zs.map (·.length)).sum ≤ zs.length * n := by
    have := sum_le (l := zs.map (·.length)) (n := n) fun x hx => by
      obtain ⟨z, hz, e⟩ := List.mem_map.mp hx
      exact e ▸ h z hz
    rwa [List.length_map] at this
  have h2 : a.length = 0 := by rw [len_ts, ha]; rfl
  have e : gJoin (.d (.str a)) [.d (.list (zs.map .str))] S = (match strsOf (zs.map .str) with
        | some ys => if (ys.map (·.length)).sum + ys.length * a.length ≤ 16777216 then .ok (.d (.str (Str.join a ys))) S else .bad
        | none => .bad) := rfl
  rw [e, strs_map]
  show (if _ then _ else _) = _
  rw [if_pos]
  rw [h2]
  show _ ≤ SZ
  omega
theorem all_strs {P : Str → Prop} : ∀ {ys : List PyData}, (∀ y ∈ ys, ∃ z, y = .str z ∧ P z) → ∃ zs : List Str, ys = zs.map .str ∧ ∀ z ∈ zs, P z
  | [], _ => ⟨[], rfl, fun _ h => by cases h⟩
  | y :: r, h => by
    obtain ⟨zs, e, h2⟩ := all_strs (P := P) (ys := r) fun y hy => h y (List.mem_cons_of_mem _ hy)
    obtain ⟨z, e3, h3⟩ := h y List.mem_cons_self
    refine ⟨z :: zs, by rw [e, e3]; rfl, fun w hw => ?_⟩
    rcases List.mem_cons.mp hw with rfl | hw
    · exact h3
    · exact h2 w hw
/-! ### ranges -/
theorem rng_ok {n : Int} (h0 : 0 ≤ n) (h : n ≤ 1000000) : decide (-(2 ^ 62) ≤ n ∧ n < 2 ^ 62) = true := decide_eq_true ⟨by omega, by omega⟩
theorem rng_fuel {n : Int} {i : Int} (h : n ≤ 1000000) : decide (fuelOf (.its (rngIts i n.toNat)) ≤ SZ) = true := by
  apply decide_eq_true
  show (rngIts i n.toNat).length + 1 ≤ 16777216
  unfold rngIts
  rw [List.length_map, List.length_range]
  omega
theorem rng_len {n : Nat} {i : Int} : (rngIts i n).length = n := by unfold rngIts; rw [List.length_map, List.length_range]
/-! ### comprehensions -/
/-- each element is drawn -/
theorem Gen.comp {β : Type} {t : Nat} {S0 S : Sto} {all : List PyData} {tg : Tg} {elt : SE} {Γ : Env} {P : PyData → Prop} {f : List PyData → Sto → R β} {Q : β → Sto → Prop} (hk : Kp t S0 S)
    (step : ∀ d S', Kp t S0 S' → d ∈ all → ∃ Γ2, tg d Γ = some Γ2 ∧ Gen t S' (elt Γ2 S') fun v => ∃ y, v = .d y ∧ P y)
    (k : ∀ ys S', ys.length = all.length → (∀ y ∈ ys, P y) → Kp t S0 S' → (f ys S').Sat Q) : ((cloop tg sYes elt Γ (.its all) (fuelOf (.its all)) 0 S).bind f).Sat Q := by
  rw [Sat_bind]
  refine Sat_comp (fun rest acc S' => rest.length + acc.length = all.length ∧ (∀ d ∈ rest, d ∈ all) ∧ (∀ y ∈ acc, P y) ∧ Kp t S0 S') ⟨rfl, fun _ h => h, fun _ h => absurd h (by simp), hk⟩ ?_ ?_
  · rintro d rest acc S' ⟨h1, h2, h3, h4⟩
    obtain ⟨Γ2, e, h⟩ := step d S' h4 (h2 d List.mem_cons_self)
    refine ⟨Γ2, e, ?_⟩
    show ((elt Γ2 S').bind fun v S2 => .ok (some v) S2).Sat _
    rw [Sat_bind]
    refine R.Sat.mono h fun v S2 ⟨⟨y, e2, hp⟩, hk2⟩ => ?_
    subst e2
    show _ ∧ _ ∧ _ ∧ _
    refine ⟨by simp only [List.length_cons, List.length_append, List.length_nil] at h1 ⊢; omega, fun d hd => h2 d (List.mem_cons_of_mem _ hd), fun z hz => ?_, h4.trans hk2⟩
    rcases List.mem_append.mp hz with hz | hz
    · exact h3 z hz
    · rw [List.mem_singleton.mp hz]; exact hp
  · rintro acc S' ⟨h1, h2, h3, h4⟩
    exact k acc S' (by simpa using h1) h3 h4
/-- each element is computed -/
theorem cloop_map {tg : Tg} {elt : SE} {Γ : Env} {S : Sto} {f : PyData → PyData} {all : List PyData} : ∀ (n i : Nat), i ≤ all.length → all.length - i < n → (∀ d ∈ all, ∃ Γ2, tg d Γ = some Γ2 ∧ elt Γ2 S = .ok (.d (f d)) S) →
    cloop tg sYes elt Γ (.its all) n i S = .ok ((all.drop i).map f) S
  | 0, i, h0, h1, h => absurd h1 (Nat.not_lt_zero _)
  | n + 1, i, h0, h1, h => by
    unfold cloop
    by_cases hi : i < all.length
    · obtain ⟨Γ2, e1, e2⟩ := h all[i] (List.getElem_mem hi)
      simp only [nxt, List.getElem?_eq_getElem hi, e1, e2, sYes, R.bind, cloop_map n (i + 1) hi (by omega) h]
      rw [List.drop_eq_getElem_cons hi, List.map_cons]
      rfl
    · have e : i = all.length := by omega
      subst e
      simp only [nxt, List.getElem?_eq_none (Nat.le_refl _), List.drop_length, List.map_nil]
theorem comp_map {tg : Tg} {elt : SE} {Γ : Env} {S : Sto} {all : List PyData} (f : PyData → PyData) (h : ∀ d ∈ all, ∃ Γ2, tg d Γ = some Γ2 ∧ elt Γ2 S = .ok (.d (f d)) S) :
    cloop tg sYes elt Γ (.its all) (fuelOf (.its all)) 0 S = .ok (all.map f) S := by
  exact cloop_map _ 0 (Nat.zero_le _) (Nat.lt_succ_self _) h
theorem cloop_filt {tg : Tg} {tst : ST} {elt : SE} {Γ : Env} {S : Sto} {p : PyData → Bool} {f : PyData → PyData} {all : List PyData} : ∀ (n i : Nat), i ≤ all.length → all.length - i < n →
    (∀ d ∈ all, ∃ Γ2, tg d Γ = some Γ2 ∧ tst Γ2 S = .ok (p d) S ∧ (p d = true → elt Γ2 S = .ok (.d (f d)) S)) →
    cloop tg tst elt Γ (.its all) n i S = .ok (((all.drop i).filter p).map f) S
  | 0, i, h0, h1, h => absurd h1 (Nat.not_lt_zero _)
  | n + 1, i, h0, h1, h => by
    unfold cloop
    by_cases hi : i < all.length
    · obtain ⟨Γ2, e1, e2, e3⟩ := h all[i] (List.getElem_mem hi)
      rw [List.drop_eq_getElem_cons hi, List.filter_cons]
      cases hp : p all[i] with
      | true =>
        simp only [nxt, List.getElem?_eq_getElem hi, e1, e2, hp, e3 hp, R.bind, cloop_filt n (i + 1) hi (by omega) h]
        rfl
      | false =>
        simp only [nxt, List.getElem?_eq_getElem hi, e1, e2, hp, R.bind, cloop_filt n (i + 1) hi (by omega) h]
        rfl
    · have e : i = all.length := by omega
      subst e
      simp only [nxt, List.getElem?_eq_none (Nat.le_refl _), List.drop_length, List.map_nil, List.filter_nil]
theorem comp_filt {tg : Tg} {tst : ST} {elt : SE} {Γ : Env} {S : Sto} {all : List PyData} (p : PyData → Bool) (f : PyData → PyData) (h : ∀ d ∈ all, ∃ Γ2, tg d Γ = some Γ2 ∧ tst Γ2 S = .ok (p d) S ∧ (p d = true → elt Γ2 S = .ok (.d (f d)) S)) :
    cloop tg tst elt Γ (.its all) (fuelOf (.its all)) 0 S = .ok ((all.filter p).map f) S := by
  exact cloop_filt _ 0 (Nat.zero_le _) (Nat.lt_succ_self _) h
theorem cloop_filtg {α : Type} {tg : Tg} {tst : ST} {elt : SE} {Γ : Env} {S : Sto} {g : α → PyData} {p : α → Bool} {f : α → PyData} {all : List α} : ∀ (n i : Nat), i ≤ all.length → all.length - i < n →
    (∀ d ∈ all, ∃ Γ2, tg (g d) Γ = some Γ2 ∧ tst Γ2 S = .ok (p d) S ∧ (p d = true → elt Γ2 S = .ok (.d (f d)) S)) →
    cloop tg tst elt Γ (.its (all.map g)) n i S = .ok (((all.drop i).filter p).map f) S
  | 0, i, h0, h1, h => absurd h1 (Nat.not_lt_zero _)
  | n + 1, i, h0, h1, h => by
    unfold cloop
    by_cases hi : i < all.length
    · obtain ⟨Γ2, e1, e2, e3⟩ := h all[i] (List.getElem_mem hi)
      rw [List.drop_eq_getElem_cons hi, List.filter_cons]
      cases hp : p all[i] with
      | true =>
        simp only [nxt, List.getElem?_map, List.getElem?_eq_getElem hi, mapO_some, e1, e2, hp, e3 hp, R.bind, cloop_filtg n (i + 1) hi (by omega) h]
        rfl
      | false =>
        simp only [nxt, List.getElem?_map, List.getElem?_eq_getElem hi, mapO_some, e1, e2, hp, R.bind, cloop_filtg n (i + 1) hi (by omega) h]
        rfl
    · have e : i = all.length := by omega
      subst e
      simp only [nxt, List.getElem?_map, mapO_none, List.getElem?_eq_none (Nat.le_refl _), List.drop_length, List.map_nil, List.filter_nil]
/-- over what is told as data: filtered, computed -/
theorem comp_filtg {α : Type} {tg : Tg} {tst : ST} {elt : SE} {Γ : Env} {S : Sto} {all : List α} (g : α → PyData) (p : α → Bool) (f : α → PyData) (h : ∀ d ∈ all, ∃ Γ2, tg (g d) Γ = some Γ2 ∧ tst Γ2 S = .ok (p d) S ∧ (p d = true → elt Γ2 S = .ok (.d (f d)) S)) :
    cloop tg tst elt Γ (.its (all.map g)) (fuelOf (.its (all.map g))) 0 S = .ok ((all.filter p).map f) S := by
  refine cloop_filtg _ 0 (Nat.zero_le _) ?_ h
  show _ < (all.map g).length + 1
  rw [List.length_map]
  omega
theorem comp_mapg {α : Type} {tg : Tg} {elt : SE} {Γ : Env} {S : Sto} {all : List α} (g : α → PyData) (f : α → PyData) (h : ∀ d ∈ all, ∃ Γ2, tg (g d) Γ = some Γ2 ∧ elt Γ2 S = .ok (.d (f d)) S) :
    cloop tg sYes elt Γ (.its (all.map g)) (fuelOf (.its (all.map g))) 0 S = .ok (all.map f) S := by
  have e := comp_filtg (tst := sYes) g (fun _ => true) f fun d hd => by
    obtain ⟨Γ2, e1, e2⟩ := h d hd
    exact ⟨Γ2, e1, rfl, fun _ => e2⟩
  rw [e, List.filter_eq_self.mpr fun _ _ => rfl]
/-- a for whose turns keep the names: each turn goes on, or some turn ends the def -/
theorem floop_g {α : Type} {tg : Tg} {b : SS} {S : Sto} {g : α → PyData} {r : α → Option Vl} {I : Env → Prop} {all : List α} : ∀ (n i : Nat) (Γ : Env), i ≤ all.length → all.length - i < n → I Γ →
    (∀ d ∈ all, ∀ Γ, I Γ → ∃ Γ2, tg (g d) Γ = some Γ2 ∧ match r d with
      | none => ∃ Γ3, (b Γ2 S = .ok (.nx Γ3) S ∨ b Γ2 S = .ok (.ct Γ3) S) ∧ I Γ3
      | some v => b Γ2 S = .ok (.rt v) S) →
    match (all.drop i).findSome? r with
      | some v => floop tg b (.its (all.map g)) n i Γ S = .ok (.rt v) S
      | none => ∃ Γ3, floop tg b (.its (all.map g)) n i Γ S = .ok (.nx Γ3) S ∧ I Γ3
  | 0, i, Γ, h0, h1, hI, h => absurd h1 (Nat.not_lt_zero _)
  | n + 1, i, Γ, h0, h1, hI, h => by
    unfold floop
    by_cases hi : i < all.length
    · obtain ⟨Γ2, e1, e2⟩ := h all[i] (List.getElem_mem hi) Γ hI
      rw [List.drop_eq_getElem_cons hi, List.findSome?_cons]
      revert e2
      cases hp : r all[i] with
      | some v =>
        intro e2
        simp only [nxt, List.getElem?_map, List.getElem?_eq_getElem hi, mapO_some, e1, e2, R.bind]
      | none =>
        rintro ⟨Γ3, e2, hI3⟩
        have ih := floop_g n (i + 1) Γ3 hi (by omega) hI3 h
        rcases e2 with e2 | e2 <;> simp only [nxt, List.getElem?_map, List.getElem?_eq_getElem hi, mapO_some, e1, e2, R.bind] <;> exact ih
    · have e : i = all.length := by omega
      subst e
      simp only [nxt, List.getElem?_map, mapO_none, List.getElem?_eq_none (Nat.le_refl _), List.drop_length, List.findSome?_nil]
      exact ⟨Γ, rfl, hI⟩
theorem for_g {α : Type} {tg : Tg} {b : SS} {S : Sto} {Γ : Env} {all : List α} (g : α → PyData) (r : α → Option Vl) (I : Env → Prop) (hI : I Γ) (h : ∀ d ∈ all, ∀ Γ, I Γ → ∃ Γ2, tg (g d) Γ = some Γ2 ∧ match r d with
      | none => ∃ Γ3, (b Γ2 S = .ok (.nx Γ3) S ∨ b Γ2 S = .ok (.ct Γ3) S) ∧ I Γ3
      | some v => b Γ2 S = .ok (.rt v) S) :
    match all.findSome? r with
      | some v => floop tg b (.its (all.map g)) (fuelOf (.its (all.map g))) 0 Γ S = .ok (.rt v) S
      | none => ∃ Γ3, floop tg b (.its (all.map g)) (fuelOf (.its (all.map g))) 0 Γ S = .ok (.nx Γ3) S ∧ I Γ3 := by
  refine floop_g _ 0 Γ (Nat.zero_le _) ?_ hI h
  show _ < (all.map g).length + 1
  rw [List.length_map]
  omega
theorem strIts_map (z : Str) : strIts z = (ts z).map fun c => .str ⟨#[c]⟩ := rfl
theorem str_fuel {z : Str} (h : z.length ≤ 1000000) : decide (fuelOf (.its (strIts z)) ≤ SZ) = true := decide_eq_true (by
  show (strIts z).length + 1 ≤ 16777216
  rw [strIts_map, List.length_map, ← len_ts]
  omega)
theorem bools_map (bs : List Bool) : boolsOf (bs.map .bool) = some bs := by
  induction bs with
  | nil => rfl
  | cons z r ih =>
    show (boolsOf (r.map .bool)).map (z :: ·) = _
    rw [ih]
    rfl
theorem for_all {α : Type} {tg : Tg} {b : SS} {S : Sto} {Γ : Env} {all : List α} (g : α → PyData) (p : α → Bool) (v : Vl) (I : Env → Prop) (hI : I Γ) (h : ∀ d ∈ all, ∀ Γ, I Γ → ∃ Γ2, tg (g d) Γ = some Γ2 ∧ (p d = true → ∃ Γ3, (b Γ2 S = .ok (.nx Γ3) S ∨ b Γ2 S = .ok (.ct Γ3) S) ∧ I Γ3) ∧ (p d = false → b Γ2 S = .ok (.rt v) S)) :
    (all.all p = true ∧ ∃ Γ3, floop tg b (.its (all.map g)) (fuelOf (.its (all.map g))) 0 Γ S = .ok (.nx Γ3) S ∧ I Γ3) ∨ (all.all p = false ∧ floop tg b (.its (all.map g)) (fuelOf (.its (all.map g))) 0 Γ S = .ok (.rt v) S) := by
  have hf := for_g (tg := tg) (b := b) (S := S) (Γ := Γ) (all := all) g (fun d => pick (p d) none (some v)) I hI fun d hd Γ hI => by
    obtain ⟨Γ2, e, h1, h2⟩ := h d hd Γ hI
    refine ⟨Γ2, e, ?_⟩
    cases hp : p d with
    | true => exact h1 hp
    | false => exact h2 hp
  have e1 : all.findSome? (fun d => pick (p d) none (some v)) = pick (all.all p) none (some v) := by
    clear hf h
    induction all with
    | nil => rfl
    | cons a l ih =>
      rw [List.findSome?_cons, List.all_cons, ih]
      cases p a <;> rfl
  rw [e1] at hf
  cases h : all.all p with
  | true =>
    rw [h] at hf
    exact .inl ⟨rfl, hf⟩
  | false =>
    rw [h] at hf
    exact .inr ⟨rfl, hf⟩
theorem len1 {c : Nat} : (⟨#[c]⟩ : Str).length = 1 := rfl
theorem len_cut {l : List Nat} {lo hi : Option Int} : (⟨(cutD l lo hi).toArray⟩ : Str).length ≤ l.length := by
  show (cutD l lo hi).toArray.size ≤ _
  simp only [List.size_toArray]
  unfold cutD
  simp only [List.length_take, List.length_drop]
  omega
theorem Sat_addS {β : Type} {a b : Str} {S : Sto} {f : Vl → Sto → R β} {Q : β → Sto → Prop} (h : a.length + b.length ≤ 16777216) (k : ∀ z : Str, z.length = a.length + b.length → ts z = ts a ++ ts b → (f (.d (.str z)) S).Sat Q) :
    ((lft S (pick (decide (a.length + b.length ≤ SZ)) (some (.str (a ++ b))) none)).bind f).Sat Q := by
  rw [decide_eq_true (show a.length + b.length ≤ SZ from h)]
  exact k _ (len_app a b) (ts_app a b)
theorem Sat_slS {β : Type} {z : Str} {lo hi : Option Int} {S : Sto} {f : Vl → Sto → R β} {Q : β → Sto → Prop} (h : z.length ≤ 16777216) (k : ∀ y : Str, y.length ≤ z.length → ts y = cutD (ts z) lo hi → (f (.d (.str y)) S).Sat Q) : ((gSl (.d (.str z)) lo hi S).bind f).Sat Q := by
  rw [v_slS, decide_eq_true (show z.length ≤ SZ from h)]
  exact k _ (Nat.le_trans len_cut (Nat.le_of_eq (len_ts z).symm)) (by simp [ts])
theorem cutD_map {α β : Type} (f : α → β) (l : List α) (lo hi : Option Int) : cutD (l.map f) lo hi = (cutD l lo hi).map f := by
  unfold cutD
  rw [List.length_map, List.map_take, List.map_drop]
theorem cutD_mem {α : Type} {l : List α} {lo hi : Option Int} {x : α} (h : x ∈ cutD l lo hi) : x ∈ l := List.mem_of_mem_drop (List.mem_of_mem_take h)
theorem cutD_len {α : Type} {l : List α} {lo hi : Option Int} : (cutD l lo hi).length ≤ l.length := by
  unfold cutD
  simp only [List.length_take, List.length_drop]
  omega
/-- every turn goes on -/
theorem for_on {α : Type} {tg : Tg} {b : SS} {S : Sto} {Γ : Env} {all : List α} (g : α → PyData) (I : Env → Prop) (hI : I Γ) (h : ∀ d ∈ all, ∀ Γ, I Γ → ∃ Γ2, tg (g d) Γ = some Γ2 ∧ ∃ Γ3, (b Γ2 S = .ok (.nx Γ3) S ∨ b Γ2 S = .ok (.ct Γ3) S) ∧ I Γ3) :
    ∃ Γ3, floop tg b (.its (all.map g)) (fuelOf (.its (all.map g))) 0 Γ S = .ok (.nx Γ3) S ∧ I Γ3 := by
  have hf := for_g (tg := tg) (b := b) (S := S) (Γ := Γ) (all := all) g (fun _ => none) I hI h
  rw [List.findSome?_eq_none_iff.mpr fun _ _ => rfl] at hf
  exact hf
/-- a for, then the rest -/
theorem Sat_forO {α β : Type} {tg : Tg} {b : SS} {S : Sto} {Γ : Env} {all : List α} {f : Fl → Sto → R β} {Q : β → Sto → Prop} {g : α → PyData} (I : List α → Env → Sto → Prop) (h0 : I all Γ S)
    (step : ∀ d rest Γ S, d ∈ all → I (d :: rest) Γ S → ∃ Γ2, tg (g d) Γ = some Γ2 ∧ (b Γ2 S).Sat fun fl S' => match fl with
      | .nx Γ' => I rest Γ' S'
      | .ct Γ' => I rest Γ' S'
      | .bk Γ' => (f (.nx Γ') S').Sat Q
      | .rt v => (f (.rt v) S').Sat Q)
    (k : ∀ Γ S, I [] Γ S → (f (.nx Γ) S).Sat Q) : ((floop tg b (.its (all.map g)) (fuelOf (.its (all.map g))) 0 Γ S).bind f).Sat Q := by
  rw [Sat_bind]
  refine Sat_for (fun ds Γ S => ∃ rest : List α, ds = rest.map g ∧ (∀ x ∈ rest, x ∈ all) ∧ I rest Γ S) ⟨all, rfl, fun _ h => h, h0⟩ ?_ ?_
  · rintro d ds Γ S ⟨rest, e, hm, hI⟩
    cases rest with
    | nil => cases e
    | cons x rest =>
      rw [List.map_cons] at e
      obtain ⟨e1, e2⟩ := List.cons.inj e
      subst e1 e2
      obtain ⟨Γ2, h1, h2⟩ := step x rest Γ S (hm x List.mem_cons_self) hI
      refine ⟨Γ2, h1, h2.mono fun fl S' h => ?_⟩
      cases fl with
      | nx Γ' => exact ⟨rest, rfl, fun y hy => hm y (List.mem_cons_of_mem _ hy), h⟩
      | ct Γ' => exact ⟨rest, rfl, fun y hy => hm y (List.mem_cons_of_mem _ hy), h⟩
      | bk Γ' => exact h
      | rt v => exact h
  · rintro Γ S ⟨rest, e, hm, hI⟩
    cases rest with
    | nil => exact k Γ S hI
    | cons x rest => cases e
theorem bools_mapg {α : Type} (f : α → Bool) (l : List α) : boolsOf (l.map fun a => .bool (f a)) = some (l.map f) := by
  rw [← bools_map, List.map_map]
  rfl
theorem strs_mapg {α : Type} (f : α → Str) (l : List α) : strsOf (l.map fun a => .str (f a)) = some (l.map f) := by
  rw [← strs_map, List.map_map]
  rfl
end L2.Pv

set_option Elab.async false
set_option linter.all false
set_option maxRecDepth 100000
namespace L2.Pv
open PySem PySem.Spec PyProof.Rows L2
theorem ord_c {c : Nat} : dOrd (.str ⟨#[c]⟩) = some (.int (c : Nat)) := rfl
theorem chr_eq {a b : Nat} : decide ((⟨#[a]⟩ : Str) = ⟨#[b]⟩) = decide (a = b) := by
  apply decide_eq_decide.mpr
  constructor
  · intro h
    have := congrArg ts h
    simpa [ts] using this
  · rintro rfl
    rfl
/-- sign by sign -/
theorem ix_str {x : Str} {k : Nat} {S : Sto} (hx : x.length ≤ 1000000) (hk : k < (ts x).length) : gIx (.d (.str x)) (.d (.int (k : Nat))) S = .ok (.d (.str ⟨#[(ts x)[k]]⟩)) S := by
  rw [v_ixS, decide_eq_true (show x.length ≤ SZ from Nat.le_trans hx (by decide)), pick_t]
  have h : atI x.cps.toList (k : Int) = some (ts x)[k] := by
    show atI (ts x) (k : Int) = _
    unfold atI ixN
    simp [hk]
  rw [h]
  rfl
/-! ### objects of a def's own, behind the store -/
theorem Tp.app {t : Nat} {S L : Sto} (h : Tp S t) : Tp (S ++ L) t := by
  obtain ⟨ns, p, c, m, e, h1, h2⟩ := h.ex
  refine ⟨ns, p, c, m, ?_, h1, h2⟩
  have hl := lst_lt e
  unfold lstOf at e ⊢
  rw [List.getElem?_append_left hl]
  exact e
theorem Tp.lt {t : Nat} {S : Sto} (h : Tp S t) : t < S.length := by
  obtain ⟨ns, p, c, m, e, h1, h2⟩ := h.ex
  exact lst_lt e
theorem Kp.split {t : Nat} {S1 L S' : Sto} (ht : t < S1.length) (h : Kp t (S1 ++ L) S') : ∃ S2, S' = S2 ++ L ∧ Kp t S1 S2 := by
  have hl := h.len
  rw [List.length_append] at hl
  have e : S' = S'.take S1.length ++ L := by
    apply List.ext_getElem?
    intro j
    by_cases hj : j < S1.length
    · rw [List.getElem?_append_left (by rw [List.length_take]; omega), List.getElem?_take, if_pos hj]
    · rw [h.eq j (by omega), List.getElem?_append_right (by omega), List.getElem?_append_right (by rw [List.length_take]; omega), List.length_take]
      congr 1
      omega
  refine ⟨_, e, ?_, by rw [List.length_take]; omega, fun j hj => ?_⟩
  · obtain ⟨ns, p, c, m, e, h1, h2⟩ := h.tp.ex
    refine ⟨ns, p, c, m, ?_, h1, h2⟩
    unfold lstOf at e ⊢
    rw [List.getElem?_take, if_pos ht]
    exact e
  · rw [List.getElem?_take]
    split
    · rename_i hlt
      rw [h.eq j hj, List.getElem?_append_left hlt]
    · rename_i hge
      rw [List.getElem?_eq_none (by omega)]
theorem Gen.thenL {β : Type} {t : Nat} {S0 S1 L : Sto} {r : R Vl} {P : Vl → Prop} {f : Vl → Sto → R β} {Q : β → Sto → Prop} (hk : Kp t S0 S1) (h : Gen t (S1 ++ L) r P) (k : ∀ v S2, P v → Kp t S0 S2 → (f v (S2 ++ L)).Sat Q) : (r.bind f).Sat Q :=
  R.Sat.bind h fun v S' ⟨a, b⟩ => by
    obtain ⟨S2, e, h2⟩ := b.split hk.tp.lt
    subst e
    exact k v S2 a (hk.trans h2)
theorem lst_own {S1 : Sto} {n : Nat} {ws : List PyData} (h : S1.length = n) : lstOf (S1 ++ [.lst ws]) n = some ws := by
  subst h
  unfold lstOf
  rw [List.getElem?_append_right (Nat.le_refl _), Nat.sub_self]
  rfl
theorem set_own {S1 : Sto} {n : Nat} {a b : Ob} (h : S1.length = n) : (S1 ++ [a]).set n b = S1 ++ [b] := by
  subst h
  rw [List.set_append_right _ _ (Nat.le_refl _), Nat.sub_self]
  rfl
theorem take_own {S1 L : Sto} {n : Nat} (h : S1.length = n) : (S1 ++ L).take n = S1 := by
  subst h
  exact List.take_left
/-- a list of the def's own goes out as data -/
theorem fin_own {S1 : Sto} {n : Nat} {ws : List PyData} (h : S1.length = n) : fin false n (.o n) (S1 ++ [Ob.lst ws]) = .ok (.d (.list ws)) S1 := by
  show (if n < n then _ else match lstOf (S1 ++ [Ob.lst ws]) n with
    | some ds => if false = true then R.ok (Vl.o n) (List.take n (S1 ++ [Ob.lst ws]) ++ [Ob.lst ds]) else R.ok (Vl.d (.list ds)) (List.take n (S1 ++ [Ob.lst ws]))
    | none => R.bad) = _
  rw [if_neg (Nat.lt_irrefl n), lst_own h, take_own h]
  rfl
theorem app_own {S1 : Sto} {n : Nat} {ws : List PyData} {d : PyData} (h : S1.length = n) (hl : ws.length < SZ) : gAppend (.o n) [.d d] (S1 ++ [Ob.lst ws]) = .ok (.d .none) (S1 ++ [Ob.lst (ws ++ [d])]) := by
  show (match lstOf (S1 ++ [Ob.lst ws]) n with
    | some ds => if ds.length < SZ then R.ok (Vl.d .none) ((S1 ++ [Ob.lst ws]).set n (Ob.lst (ds ++ [d]))) else R.bad
    | none => R.bad) = _
  rw [lst_own h]
  show (if ws.length < SZ then _ else _) = _
  rw [if_pos hl, set_own h]
theorem met_own {S1 : Sto} {n : Nat} {ws : List PyData} {g : Vl → GL} {fs : List SE} {Γ : Env} {i : Nat} (h : S1.length = n) (hi : Γ[i]? = some (some (.o n))) : sMetO g (sVar i) fs Γ (S1 ++ [Ob.lst ws]) = (sArgs fs Γ (S1 ++ [Ob.lst ws])).bind fun vs S2 => g (.o n) vs S2 := by
  rw [x_metO, x_var, hi]
  show (match lstOf (S1 ++ [Ob.lst ws]) n with | some _ => _ | none => _) = _
  rw [lst_own h]
theorem rng_map {i : Int} {n : Nat} : rngIts i n = (List.range n).map fun (j : Nat) => .int (i + (j : Int)) := rfl
theorem rep_len {x : Str} {n : Int} : (strRep x n).length = n.toNat * x.length := by
  show ((List.replicate n.toNat x.cps.toList).flatten.toArray).size = _
  rw [List.size_toArray, List.length_flatten, List.map_replicate, List.sum_replicate_nat]
  rw [show x.cps.toList.length = x.length from (len_ts x).symm]
/-- every turn goes on -/
def On (I : Env → Sto → Prop) : Fl → Sto → Prop := fun fl S => match fl with
  | .nx Γ => I Γ S
  | .ct Γ => I Γ S
  | _ => False
theorem On_nx {I : Env → Sto → Prop} {Γ : Env} {S : Sto} : On I (.nx Γ) S = I Γ S := rfl
theorem On_ct {I : Env → Sto → Prop} {Γ : Env} {S : Sto} : On I (.ct Γ) S = I Γ S := rfl
theorem Sat_forC {α β : Type} {tg : Tg} {b : SS} {S : Sto} {Γ : Env} {all : List α} {f : Fl → Sto → R β} {Q : β → Sto → Prop} {g : α → PyData} (I : List α → Env → Sto → Prop) (h0 : I all Γ S)
    (step : ∀ d rest Γ S, d ∈ all → I (d :: rest) Γ S → ∃ Γ2, tg (g d) Γ = some Γ2 ∧ (b Γ2 S).Sat (On (I rest)))
    (k : ∀ Γ S, I [] Γ S → (f (.nx Γ) S).Sat Q) : ((floop tg b (.its (all.map g)) (fuelOf (.its (all.map g))) 0 Γ S).bind f).Sat Q :=
  Sat_forO I h0 (fun d rest Γ S hd hI => by
    obtain ⟨Γ2, e, h⟩ := step d rest Γ S hd hI
    refine ⟨Γ2, e, h.mono fun fl S' h => ?_⟩
    cases fl with
    | nx Γ' => exact h
    | ct Γ' => exact h
    | bk Γ' => exact h.elim
    | rt v => exact h.elim) k
theorem Sat_slS' {β : Type} {z : Str} {lo hi : Option Int} {S : Sto} {f : Vl → Sto → R β} {Q : β → Sto → Prop} (h : z.length ≤ 16777216) (k : ∀ y : Str, y.length = (cutD (ts z) lo hi).length → ts y = cutD (ts z) lo hi → (f (.d (.str y)) S).Sat Q) : ((gSl (.d (.str z)) lo hi S).bind f).Sat Q :=
  Sat_slS h fun y _ e => k y (by rw [len_ts, e]) e
theorem cut_to {α : Type} {l : List α} {i : Int} (h : 0 ≤ i) : cutD l none (some i) = l.take i.toNat := by
  unfold cutD HT.sIx
  simp only [List.drop_zero, Nat.sub_zero, if_neg (Int.not_lt.mpr h)]
  rw [List.take_eq_take_iff]
  omega
theorem cut_from {α : Type} {l : List α} {i : Int} (h : 0 ≤ i) : cutD l (some i) none = l.drop i.toNat := by
  unfold cutD HT.sIx
  simp only [if_neg (Int.not_lt.mpr h)]
  rw [List.take_of_length_le (by rw [List.length_drop]; exact Nat.le_refl _)]
  by_cases h2 : i.toNat ≤ l.length
  · rw [Nat.min_eq_left h2]
  · rw [Nat.min_eq_right (by omega), List.drop_length, List.drop_eq_nil_of_le (by omega)]
theorem ne_nil {l : List PyData} : dNe (.list l) (.list []) = some (.bool (!l.isEmpty)) := by
  unfold dNe dEqB
  have h : min (PyData.depth (.list l)) (PyData.depth (.list [])) ≤ 60 := Nat.le_trans (Nat.min_le_right _ _) (by decide)
  rw [if_pos h]
  cases l <;> rfl
theorem eq_nil {l : List PyData} : dEq (.list l) (.list []) = some (.bool l.isEmpty) := by
  unfold dEq dEqB
  have h : min (PyData.depth (.list l)) (PyData.depth (.list [])) ≤ 60 := Nat.le_trans (Nat.min_le_right _ _) (by decide)
  rw [if_pos h]
  cases l <;> rfl
theorem lt_rank {a b : Int} {x y : Str} : dLt (.tuple [.int a, .str x]) (.tuple [.int b, .str y]) = some (.bool (decide (a < b ∨ a = b ∧ ts x < ts y))) := by
  have e : dLt (.tuple [.int a, .str x]) (.tuple [.int b, .str y]) = some (.bool (PySem.W.dataLt (.tuple [.int a, .str x]) (.tuple [.int b, .str y]))) := rfl
  rw [e, PySem.W.dataLt_pair rfl rfl, PySem.W.dataLt_int, PySem.W.dataLt_str]
  have e2 : PyData.eqv (.int a) (.int b) = (a == b) := rfl
  have e3 : PyData.eqv (.str x) (.str y) = (x == y) := rfl
  rw [e2, e3]
  by_cases h : a = b
  · subst h
    by_cases h2 : x = y
    · subst h2
      have : ¬ (ts x < ts x) := fun h => List.lt_irrefl _ h
      simp [this]
    · simp [h2, ts]
  · simp [h]
end L2.Pv

set_option Elab.async false
set_option linter.all false
set_option maxRecDepth 100000
namespace L2.Pv
open PySem PySem.Spec PyProof.Rows L2
/-! ### a for over a list of the store that stays as it is -/
theorem Sat_ob_at {tg : Tg} {b : SS} {n : Nat} {ds : List PyData} {Q : Fl → Sto → Prop} (I : List PyData → Env → Sto → Prop)
    (hS : ∀ rest Γ S, I rest Γ S → lstOf S n = some ds)
    (step : ∀ d rest Γ S, d ∈ ds → I (d :: rest) Γ S → ∃ Γ2, tg d Γ = some Γ2 ∧ (b Γ2 S).Sat fun fl S' => match fl with
      | .nx Γ' => I rest Γ' S'
      | .ct Γ' => I rest Γ' S'
      | .bk Γ' => Q (.nx Γ') S'
      | .rt v => Q (.rt v) S')
    (done : ∀ Γ S, I [] Γ S → Q (.nx Γ) S) : ∀ (m i : Nat) (Γ : Env) (S : Sto), i ≤ ds.length → ds.length - i < m → I (ds.drop i) Γ S → (floop tg b (.ob n) m i Γ S).Sat Q
  | 0, i, Γ, S, h0, h1, h2 => absurd h1 (Nat.not_lt_zero _)
  | m + 1, i, Γ, S, h0, h1, h2 => by
    unfold floop
    have hs := hS _ _ _ h2
    by_cases hi : i < ds.length
    · rw [List.drop_eq_getElem_cons hi] at h2
      obtain ⟨Γ2, e1, e2⟩ := step _ _ _ _ (List.getElem_mem hi) h2
      simp only [nxt, hs, mapO_some, List.getElem?_eq_getElem hi, e1]
      refine e2.bind fun fl S' h => ?_
      cases fl with
      | nx Γ' => exact Sat_ob_at I hS step done m (i + 1) Γ' S' hi (by omega) h
      | ct Γ' => exact Sat_ob_at I hS step done m (i + 1) Γ' S' hi (by omega) h
      | bk Γ' => exact h
      | rt v => exact h
    · have e : i = ds.length := by omega
      subst e
      rw [List.drop_length] at h2
      simp only [nxt, hs, mapO_some, List.getElem?_eq_none (Nat.le_refl _)]
      exact done _ _ h2
theorem Sat_forOb {α β : Type} {tg : Tg} {b : SS} {S : Sto} {Γ : Env} {n : Nat} {all : List α} {f : Fl → Sto → R β} {Q : β → Sto → Prop} (g : α → PyData) (I : List α → Env → Sto → Prop) (hl : all.length < 1000000) (h0 : I all Γ S) (hS : ∀ rest Γ S, I rest Γ S → lstOf S n = some (all.map g))
    (step : ∀ d rest Γ S, d ∈ all → I (d :: rest) Γ S → ∃ Γ2, tg (g d) Γ = some Γ2 ∧ (b Γ2 S).Sat fun fl S' => match fl with
      | .nx Γ' => I rest Γ' S'
      | .ct Γ' => I rest Γ' S'
      | .bk Γ' => (f (.nx Γ') S').Sat Q
      | .rt v => (f (.rt v) S').Sat Q)
    (k : ∀ Γ S, I [] Γ S → (f (.nx Γ) S).Sat Q) : ((floop tg b (.ob n) (fuelOf (.ob n)) 0 Γ S).bind f).Sat Q := by
  rw [Sat_bind]
  refine Sat_ob_at (ds := all.map g) (fun ds Γ S => ∃ rest : List α, ds = rest.map g ∧ (∀ x ∈ rest, x ∈ all) ∧ I rest Γ S) ?_ ?_ ?_ _ 0 Γ S (Nat.zero_le _) ?_ ⟨all, rfl, fun _ h => h, h0⟩
  · rintro ds Γ S ⟨rest, e, hm, hI⟩
    exact hS _ _ _ hI
  · rintro d ds Γ S _ ⟨rest, e, hm, hI⟩
    cases rest with
    | nil => cases e
    | cons x rest =>
      rw [List.map_cons] at e
      obtain ⟨e1, e2⟩ := List.cons.inj e
      subst e1 e2
      obtain ⟨Γ2, h1, h2⟩ := step x rest Γ S (hm x List.mem_cons_self) hI
      refine ⟨Γ2, h1, h2.mono fun fl S' h => ?_⟩
      cases fl with
      | nx Γ' => exact ⟨rest, rfl, fun y hy => hm y (List.mem_cons_of_mem _ hy), h⟩
      | ct Γ' => exact ⟨rest, rfl, fun y hy => hm y (List.mem_cons_of_mem _ hy), h⟩
      | bk Γ' => exact h
      | rt v => exact h
  · rintro Γ S ⟨rest, e, hm, hI⟩
    cases rest with
    | nil => exact k Γ S hI
    | cons x rest => cases e
  · show (all.map g).length - 0 < 1000000
    rw [List.length_map]
    omega
theorem Sat_forObC {α β : Type} {tg : Tg} {b : SS} {S : Sto} {Γ : Env} {n : Nat} {all : List α} {f : Fl → Sto → R β} {Q : β → Sto → Prop} (g : α → PyData) (I : List α → Env → Sto → Prop) (hl : all.length < 1000000) (h0 : I all Γ S) (hS : ∀ rest Γ S, I rest Γ S → lstOf S n = some (all.map g))
    (step : ∀ d rest Γ S, d ∈ all → I (d :: rest) Γ S → ∃ Γ2, tg (g d) Γ = some Γ2 ∧ (b Γ2 S).Sat (On (I rest)))
    (k : ∀ Γ S, I [] Γ S → (f (.nx Γ) S).Sat Q) : ((floop tg b (.ob n) (fuelOf (.ob n)) 0 Γ S).bind f).Sat Q :=
  Sat_forOb g I hl h0 hS (fun d rest Γ S hd hI => by
    obtain ⟨Γ2, e, h⟩ := step d rest Γ S hd hI
    refine ⟨Γ2, e, h.mono fun fl S' h => ?_⟩
    cases fl with
    | nx Γ' => exact h
    | ct Γ' => exact h
    | bk Γ' => exact h.elim
    | rt v => exact h.elim) k
theorem lst_ownJ {S1 L : Sto} {n j : Nat} (h : S1.length = n) : lstOf (S1 ++ L) (n + j) = lstOf L j := by
  subst h
  unfold lstOf
  rw [List.getElem?_append_right (by omega), Nat.add_sub_cancel_left]
theorem lst_own0 {S1 L : Sto} {n : Nat} (h : S1.length = n) : lstOf (S1 ++ L) n = lstOf L 0 := lst_ownJ (j := 0) h
theorem set_ownJ {S1 L : Sto} {n j : Nat} {o : Ob} (h : S1.length = n) : (S1 ++ L).set (n + j) o = S1 ++ L.set j o := by
  subst h
  rw [List.set_append_right _ _ (by omega), Nat.add_sub_cancel_left]
theorem set_own0 {S1 L : Sto} {n : Nat} {o : Ob} (h : S1.length = n) : (S1 ++ L).set n o = S1 ++ L.set 0 o := set_ownJ (j := 0) h
theorem e_append {n : Nat} {d : PyData} {S : Sto} {ws : List PyData} (h : lstOf S n = some ws) (hl : ws.length < SZ) : gAppend (.o n) [.d d] S = .ok (.d .none) (S.set n (.lst (ws ++ [d]))) := by
  show (match lstOf S n with
    | some ds => if ds.length < SZ then R.ok (Vl.d .none) (S.set n (.lst (ds ++ [d]))) else R.bad
    | none => R.bad) = _
  rw [h]
  show (if ws.length < SZ then _ else _) = _
  rw [if_pos hl]
theorem e_pop1 {n : Nat} {i : Int} {S : Sto} {ws : List PyData} (h : lstOf S n = some ws) (hl : ws.length ≤ SZ) (h0 : 0 ≤ i) (h1 : i < ws.length) : gPop1 (.o n) [.d (.int i)] S = .ok (.d (ws[i.toNat]'(by omega))) (S.set n (.lst (ws.eraseIdx i.toNat))) := by
  have hx : ixN ws.length i = some i.toNat := by
    unfold ixN
    rw [if_pos h0, if_pos h1]
  have e : gPop (.o n) [.d (.int i)] S = (match lstOf S n with
    | some ds => (match ixN ds.length i with
      | some j => match ds[j]? with
        | some d => R.ok (Vl.d d) (S.set n (.lst (ds.eraseIdx j)))
        | none => R.bad
      | none => R.bad)
    | none => R.bad) := rfl
  show (match lstOf S n with
    | some ds => if ds.length ≤ SZ ∧ [Vl.d (.int i)].length = 1 then gPop (.o n) [.d (.int i)] S else R.bad
    | none => R.bad) = _
  rw [h]
  show (if ws.length ≤ SZ ∧ [Vl.d (.int i)].length = 1 then gPop (.o n) [.d (.int i)] S else R.bad) = _
  rw [if_pos ⟨hl, rfl⟩, e, h]
  simp only [hx, List.getElem?_eq_getElem (show i.toNat < ws.length by omega)]
theorem cloop_filtO {α : Type} {tg : Tg} {tst : ST} {elt : SE} {Γ : Env} {S : Sto} {n : Nat} {g : α → PyData} {p : α → Bool} {f : α → PyData} {all : List α} (hS : lstOf S n = some (all.map g)) : ∀ (m i : Nat), i ≤ all.length → all.length - i < m →
    (∀ d ∈ all, ∃ Γ2, tg (g d) Γ = some Γ2 ∧ tst Γ2 S = .ok (p d) S ∧ (p d = true → elt Γ2 S = .ok (.d (f d)) S)) →
    cloop tg tst elt Γ (.ob n) m i S = .ok (((all.drop i).filter p).map f) S
  | 0, i, h0, h1, h => absurd h1 (Nat.not_lt_zero _)
  | m + 1, i, h0, h1, h => by
    unfold cloop
    by_cases hi : i < all.length
    · obtain ⟨Γ2, e1, e2, e3⟩ := h all[i] (List.getElem_mem hi)
      rw [List.drop_eq_getElem_cons hi, List.filter_cons]
      cases hp : p all[i] with
      | true =>
        simp only [nxt, hS, List.getElem?_map, List.getElem?_eq_getElem hi, mapO_some, e1, e2, hp, e3 hp, R.bind, cloop_filtO hS m (i + 1) hi (by omega) h]
        rfl
      | false =>
        simp only [nxt, hS, List.getElem?_map, List.getElem?_eq_getElem hi, mapO_some, e1, e2, hp, R.bind, cloop_filtO hS m (i + 1) hi (by omega) h]
        rfl
    · have e : i = all.length := by omega
      subst e
      simp only [nxt, hS, List.getElem?_map, mapO_some, mapO_none, List.getElem?_eq_none (Nat.le_refl _), List.drop_length, List.map_nil, List.filter_nil]
theorem comp_filtO {α : Type} {tg : Tg} {tst : ST} {elt : SE} {Γ : Env} {S : Sto} {n : Nat} {all : List α} (g : α → PyData) (p : α → Bool) (f : α → PyData) (hS : lstOf S n = some (all.map g)) (hl : all.length < 1000000) (h : ∀ d ∈ all, ∃ Γ2, tg (g d) Γ = some Γ2 ∧ tst Γ2 S = .ok (p d) S ∧ (p d = true → elt Γ2 S = .ok (.d (f d)) S)) :
    cloop tg tst elt Γ (.ob n) (fuelOf (.ob n)) 0 S = .ok ((all.filter p).map f) S := cloop_filtO hS _ 0 (Nat.zero_le _) (show _ < 1000000 by omega) h
theorem comp_mapO {α : Type} {tg : Tg} {elt : SE} {Γ : Env} {S : Sto} {n : Nat} {all : List α} (g : α → PyData) (f : α → PyData) (hS : lstOf S n = some (all.map g)) (hl : all.length < 1000000) (h : ∀ d ∈ all, ∃ Γ2, tg (g d) Γ = some Γ2 ∧ elt Γ2 S = .ok (.d (f d)) S) :
    cloop tg sYes elt Γ (.ob n) (fuelOf (.ob n)) 0 S = .ok (all.map f) S := by
  have e := comp_filtO (tst := sYes) g (fun _ => true) f hS hl fun d hd => by
    obtain ⟨Γ2, e1, e2⟩ := h d hd
    exact ⟨Γ2, e1, rfl, fun _ => e2⟩
  rw [e, List.filter_eq_self.mpr fun _ _ => rfl]
theorem lst_appL {S L : Sto} {n : Nat} {ds : List PyData} (h : lstOf S n = some ds) : lstOf (S ++ L) n = some ds := by
  have hl := lst_lt h
  unfold lstOf at h ⊢
  rw [List.getElem?_append_left hl]
  exact h
theorem ob_fuel {n : Nat} : decide (fuelOf (.ob n) ≤ SZ) = true := decide_eq_true (show 1000000 ≤ 16777216 by decide)
theorem Kp.lst {t n : Nat} {S S' : Sto} {ds : List PyData} (h : Kp t S S') (hn : n ≠ t) (e : lstOf S n = some ds) : lstOf S' n = some ds := by
  unfold lstOf at e ⊢
  rw [h.eq n hn]
  exact e
theorem l_srcO {S : Sto} {n : Nat} {ds : List PyData} (h : lstOf S n = some ds) : srcOf S (.o n) = some (.ob n) := by
  show (lstOf S n).map (fun _ => Src.ob n) = _
  rw [h]
  rfl
/-- a body at its end: the same as the body and what is behind -/
theorem Sat_end_id {α : Type} {r : R α} {Q : α → Sto → Prop} (h : (r.bind fun a S => .ok a S).Sat Q) : r.Sat Q := by
  cases r with
  | ok a S => exact h
  | bad => exact h
/-! ### membership -/
theorem eqv_str (a b : Str) : PyData.eqv (.str a) (.str b) = (a == b) := rfl
theorem any_strs (l : List Str) (c : Str) : (l.map PyData.str).any (fun z => PyData.eqv z (.str c)) = decide (c ∈ l) := by
  rw [List.any_map]
  induction l with
  | nil => simp
  | cons a r ih =>
    rw [List.any_cons, ih]
    show (PyData.eqv (.str a) (.str c) || decide (c ∈ r)) = _
    rw [eqv_str]
    by_cases h : a = c
    · subst h; simp
    · have h2 : ¬ c = a := fun e => h e.symm
      simp [h, h2]
theorem in_strs (l : List Str) (c : Str) : dIn (.str c) (.list (l.map .str)) = some (.bool (decide (c ∈ l))) := by
  have h : min (PyData.depthAll (l.map .str)) (PyData.depth (.str c)) ≤ 60 := Nat.le_trans (Nat.min_le_right _ _) (show 0 ≤ 60 by decide)
  show obl (if min (PyData.depthAll (l.map .str)) (PyData.depth (.str c)) ≤ 60 then some ((l.map PyData.str).any fun z => PyData.eqv z (.str c)) else none) = _
  rw [if_pos h, any_strs]
  rfl
theorem nin_strs (l : List Str) (c : Str) : dNotIn (.str c) (.list (l.map .str)) = some (.bool (!decide (c ∈ l))) := by
  have h : min (PyData.depthAll (l.map .str)) (PyData.depth (.str c)) ≤ 60 := Nat.le_trans (Nat.min_le_right _ _) (show 0 ≤ 60 by decide)
  show obl (onot (if min (PyData.depthAll (l.map .str)) (PyData.depth (.str c)) ≤ 60 then some ((l.map PyData.str).any fun z => PyData.eqv z (.str c)) else none)) = _
  rw [if_pos h, any_strs]
  rfl
/-- distinct ones among others are no more than these -/
theorem nodup_le {α : Type} [DecidableEq α] : ∀ {l m : List α}, l.Nodup → (∀ x ∈ l, x ∈ m) → l.length ≤ m.length
  | [], _, _, _ => Nat.zero_le _
  | a :: r, m, h, hs => by
    have h1 := List.nodup_cons.mp h
    have ha := hs a List.mem_cons_self
    have ih := nodup_le (l := r) (m := m.erase a) h1.2 fun x hx => (List.mem_erase_of_ne (fun e : x = a => h1.1 (by rw [← e]; exact hx))).mpr (hs x (List.mem_cons_of_mem _ hx))
    rw [List.length_erase_of_mem ha] at ih
    have : 0 < m.length := List.length_pos_of_mem ha
    rw [List.length_cons]
    omega
/-! ### plain data is the same as itself -/
inductive Plain : PyData → Prop
  | non : Plain .none
  | bl (b : Bool) : Plain (.bool b)
  | int (i : Int) : Plain (.int i)
  | str (x : Str) : Plain (.str x)
  | tup (ds : List PyData) (h : ∀ d ∈ ds, Plain d) (hl : ds.length ≤ 100000) : Plain (.tuple ds)
theorem depth_mem {ds : List PyData} {d : PyData} (h : d ∈ ds) : d.depth ≤ PyData.depthAll ds := by
  induction ds with
  | nil => cases h
  | cons a r ih =>
    show _ ≤ max a.depth (PyData.depthAll r)
    rcases List.mem_cons.mp h with rfl | h
    · exact Nat.le_max_left _ _
    · exact Nat.le_trans (ih h) (Nat.le_max_right _ _)
theorem depth_all {ds : List PyData} {n : Nat} (h : ∀ d ∈ ds, d.depth ≤ n) : PyData.depthAll ds ≤ n := by
  induction ds with
  | nil => exact Nat.zero_le _
  | cons a r ih => exact Nat.max_le.mpr ⟨h a List.mem_cons_self, ih fun d hd => h d (List.mem_cons_of_mem _ hd)⟩
theorem atI_nat {α : Type} {ds : List α} {j : Nat} (h : j < ds.length) : atI ds (j : Int) = some ds[j] := by
  unfold atI ixN
  simp [h]
end L2.Pv

set_option Elab.async false
set_option linter.all false
set_option maxRecDepth 100000
namespace L2.Pv
open PySem PySem.Spec PyProof.Rows L2
/-! ### while -/
theorem Sat_wloop {c : ST} {b : SS} {Q : Fl → Sto → Prop} (I : Nat → Env → Sto → Prop)
    (step : ∀ m Γ S, I m Γ S → (c Γ S).Sat fun x S1 => match x with
      | true => (b Γ S1).Sat fun fl S2 => match fl with
        | .nx Γ' => ∃ m', m' < m ∧ I m' Γ' S2
        | .ct Γ' => ∃ m', m' < m ∧ I m' Γ' S2
        | .bk Γ' => Q (.nx Γ') S2
        | .rt v => Q (.rt v) S2
      | false => Q (.nx Γ) S1) : ∀ (n m : Nat) (Γ : Env) (S : Sto), m < n → I m Γ S → (wloop c b n Γ S).Sat Q
  | 0, m, Γ, S, h, _ => absurd h (Nat.not_lt_zero _)
  | n + 1, m, Γ, S, h, hI => by
    unfold wloop
    refine (step m Γ S hI).bind fun x S1 hx => ?_
    cases x with
    | false =>
      rw [if_neg Bool.false_ne_true]
      exact hx
    | true =>
      rw [if_pos rfl]
      refine R.Sat.bind hx fun fl S2 h2 => ?_
      cases fl with
      | nx Γ' =>
        obtain ⟨m', h3, h4⟩ := h2
        exact Sat_wloop I step n m' Γ' S2 (by omega) h4
      | ct Γ' =>
        obtain ⟨m', h3, h4⟩ := h2
        exact Sat_wloop I step n m' Γ' S2 (by omega) h4
      | bk Γ' => exact h2
      | rt v => exact h2
theorem Sat_while {β : Type} {c : ST} {b : SS} {f : Fl → Sto → R β} {Q : β → Sto → Prop} {Γ : Env} {S : Sto} (I : Nat → Env → Sto → Prop) (m : Nat) (hm : m < 1000000) (h0 : I m Γ S)
    (step : ∀ m Γ S, I m Γ S → (c Γ S).Sat fun x S1 => match x with
      | true => (b Γ S1).Sat fun fl S2 => match fl with
        | .nx Γ' => ∃ m', m' < m ∧ I m' Γ' S2
        | .ct Γ' => ∃ m', m' < m ∧ I m' Γ' S2
        | .bk Γ' => (f (.nx Γ') S2).Sat Q
        | .rt v => (f (.rt v) S2).Sat Q
      | false => (f (.nx Γ) S1).Sat Q) : ((sWhile c b Γ S).bind f).Sat Q := by
  rw [Sat_bind]
  exact Sat_wloop I step _ m Γ S hm h0
/-! ### places of items -/
def pAt {α : Type} (P : α → Bool) (l : List α) (i : Nat) : Bool := match l[i]? with
  | some x => P x
  | none => false
theorem idx_first {α : Type} (P : α → Bool) : ∀ {l : List α}, l.any P = true → ∃ j r, (List.range l.length).filter (pAt P l) = j :: r ∧ j < l.length ∧ l.take j = l.takeWhile (fun x => !P x)
  | [], h => by cases h
  | a :: l, h => by
    rw [List.length_cons, List.range_succ_eq_map, List.filter_cons, List.filter_map]
    cases ha : P a with
    | true =>
      rw [if_pos (show pAt P (a :: l) 0 = true from ha)]
      exact ⟨0, _, rfl, Nat.succ_pos _, by rw [List.takeWhile_cons, if_neg (by rw [ha]; decide)]; rfl⟩
    | false =>
      rw [if_neg (by show ¬(P a = true); rw [ha]; decide)]
      have h2 : l.any P = true := by rw [List.any_cons, ha] at h; exact h
      obtain ⟨j, r, h3, h4, h5⟩ := idx_first P h2
      have e : (fun i => pAt P (a :: l) i) ∘ Nat.succ = pAt P l := rfl
      refine ⟨j + 1, r.map Nat.succ, ?_, by omega, ?_⟩
      · rw [show (pAt P (a :: l) ∘ Nat.succ) = pAt P l from rfl, h3]
        rfl
      · rw [List.takeWhile_cons, if_pos (by rw [ha]; rfl), List.take_succ_cons, h5]
theorem idx_last {α : Type} (P : α → Bool) (l : List α) : match l.foldl (fun f x => if P x = true then some x else f) none with
    | none => (List.range l.length).filter (pAt P l) = []
    | some x => ∃ j r, (List.range l.length).filter (pAt P l) = r ++ [j] ∧ l[j]? = some x := by
  have gen : ∀ (l2 l1 : List α) (o : Option α), (match o with
      | none => (List.range l1.length).filter (pAt P (l1 ++ l2)) = []
      | some x => ∃ j r, (List.range l1.length).filter (pAt P (l1 ++ l2)) = r ++ [j] ∧ (l1 ++ l2)[j]? = some x) →
      match l2.foldl (fun f x => if P x = true then some x else f) o with
      | none => (List.range (l1 ++ l2).length).filter (pAt P (l1 ++ l2)) = []
      | some x => ∃ j r, (List.range (l1 ++ l2).length).filter (pAt P (l1 ++ l2)) = r ++ [j] ∧ (l1 ++ l2)[j]? = some x := by
    intro l2
    induction l2 with
    | nil =>
      intro l1 o h
      rw [List.append_nil] at h ⊢
      exact h
    | cons a r ih =>
      intro l1 o h
      have e : l1 ++ a :: r = (l1 ++ [a]) ++ r := by simp
      rw [List.foldl_cons, e]
      refine ih (l1 ++ [a]) _ ?_
      rw [← e]
      have hp : pAt P (l1 ++ a :: r) l1.length = P a := by
        unfold pAt
        rw [List.getElem?_append_right (Nat.le_refl _), Nat.sub_self]
        rfl
      have hl : (l1 ++ [a]).length = l1.length + 1 := by simp
      rw [hl, List.range_succ, List.filter_append, List.filter_cons, List.filter_nil, hp]
      cases ha : P a with
      | true =>
        rw [if_pos rfl, if_pos rfl]
        exact ⟨l1.length, _, rfl, by rw [List.getElem?_append_right (Nat.le_refl _), Nat.sub_self]; rfl⟩
      | false =>
        rw [if_neg Bool.false_ne_true, if_neg Bool.false_ne_true]
        cases o with
        | none =>
          show _ ++ [] = []
          rw [List.append_nil]
          exact h
        | some x =>
          show ∃ j r_1, _ ++ [] = r_1 ++ [j] ∧ _
          rw [List.append_nil]
          exact h
  exact gen l [] none rfl
theorem atI_in {α : Type} {xs : List α} {i : Int} (h : 0 ≤ i) (h2 : i < xs.length) : ∃ x, atI xs i = some x ∧ x ∈ xs := by
  unfold atI ixN
  obtain ⟨j, rfl⟩ := Int.eq_ofNat_of_zero_le h
  have h3 : j < xs.length := by omega
  refine ⟨xs[j], ?_, List.getElem_mem h3⟩
  simp [h3]
theorem takeWhile_all {α : Type} {P : α → Bool} : ∀ {l : List α}, (∀ x ∈ l, P x = true) → l.takeWhile P = l
  | [], _ => rfl
  | a :: l, h => by
    rw [List.takeWhile_cons, if_pos (h a List.mem_cons_self), takeWhile_all fun x hx => h x (List.mem_cons_of_mem _ hx)]
end L2.Pv

set_option Elab.async false
set_option linter.all false
set_option maxRecDepth 100000
namespace L2.Pv
open PySem PySem.Spec PyProof.Rows L2
/-! ### the defs of the text, what they mean (printed by gen.py) -/
def topS (i : Nat) : Stmt := PySem.Challenge.pw_hookcheck_k08_order_of_scalars.main.body.getD i (.Pass ⟨0, 0, 0, 0⟩)
def G : List (Str × GE) := [("compare_ranks", .fn 2), ("scalar_rank", .fn 1), ("compare_scalars", .fn 2), ("_law_tape", .fn 1), ("_law_draw", .fn 2), ("_law_pick", .fn 2), ("_law_same", .fn 2), ("_law_any_sign", .fn 1), ("_law_tight_text", .fn 2), ("_law_scalar", .fn 1), ("_law_worth", .fn 1), ("_law_sign", .fn 2), ("_law_scalar_near", .fn 2), ("law", .fn 1), ("isinstance", .blt .isinstance), ("tuple", .blt .tuple), ("str", .blt .str), ("range", .blt .range), ("list", .blt .list), ("max", .blt .max), ("int", .blt .int), ("bool", .blt .bool), ("len", .blt .len), ("abs", .blt .abs), ("min", .blt .min), ("PLAIN_WORDS", .con (.tuple [(.str "null"), (.str "false"), (.str "true")]))]
def b_compare_ranks (call : Str → GL) : SS :=
  (sSeq (sIte (sTst (sBin (cmp2 dLt) (sVar 0) (sVar 1)))
  (sRet (sUn (dat1 dNeg) (sCon (.int 1))))
  sSkip)
  (sSeq (sIte (sTst (sBin (cmp2 dLt) (sVar 1) (sVar 0)))
  (sRet (sCon (.int 1)))
  sSkip)
  (sRet (sCon (.int 0)))))
def b_scalar_rank (call : Str → GL) : SS :=
  (sSeq (sSet 1 (sBin gIx (sVar 0) (sCon (.int 0))))
  (sSeq (sIte (sTst (sBin (cmp2 dEq) (sVar 1) (sCon (.str "number"))))
  (sSeq (sSet 2 (sBin gIx (sVar 0) (sCon (.int 1))))
  (sSeq (sIte (sTst (sBin (cmp2 dGt) (sVar 2) (sCon (.int 0))))
  (sRet (sCall gTup [(sCon (.int 3)), (sBin (dat2 dSub) (sBin (dat2 dMul) (sCon (.int 2)) (sVar 2)) (sCon (.int 1))), (sCon (.str ""))]))
  sSkip)
  (sRet (sCall gTup [(sCon (.int 3)), (sBin (dat2 dMul) (sUn (dat1 dNeg) (sCon (.int 2))) (sVar 2)), (sCon (.str ""))]))))
  sSkip)
  (sSeq (sIte (sTst (sBin (cmp2 dEq) (sVar 1) (sCon (.str "text"))))
  (sRet (sCall gTup [(sCon (.int 4)), (sCall (arg1 gLen) [(sBin gIx (sVar 0) (sCon (.int 1)))]), (sBin gIx (sVar 0) (sCon (.int 1)))]))
  sSkip)
  (sRet (sCall gTup [(sUn (gIndexC ["null", "false", "true"]) (sVar 1)), (sCon (.int 0)), (sCon (.str ""))])))))
def b_compare_scalars (call : Str → GL) : SS :=
  (sRet (sCall (call "compare_ranks") [(sCall (call "scalar_rank") [(sVar 0)]), (sCall (call "scalar_rank") [(sVar 1)])]))
def b_law_tape (call : Str → GL) : SS :=
  (sSeq (sSet 1 (sCon (.int 7)))
  (sSeq (sFor (sIter (sVar 0)) (tNm 2)
  (sSet 1 (sBin (dat2 dMod) (sCall (arg1 (dat1 dInt)) [(sBin gAdd (sBin (dat2 dMul) (sVar 1) (sCon (.int 31))) (sCall (arg1 (dat1 dAbs)) [(sCall (arg1 (dat1 dInt)) [(sVar 2)])]))]) (sCon (.int 2147483647)))))
  (sRet (sCall gNew [(sCall (arg1 gList) [(sVar 0)]), (sCon (.int 0)), (sCon (.int 0)), (sVar 1)]))))
def b_law_draw (call : Str → GL) : SS :=
  (sSeq (sIte (sTst (sBin (cmp2 dEq) (sBin gIx (sVar 0) (sCon (.int 2))) (sCon (.int 0))))
  (sSeq (sSet 2 (sBin gIx (sVar 0) (sCon (.int 1))))
  (sSeq (sSet 3 (sCon (.int 0)))
  (sSeq (sIte (sTst (sBin (cmp2 dLt) (sVar 2) (sCall (arg1 gLen) [(sBin gIx (sVar 0) (sCon (.int 0)))])))
  (sSet 3 (sCall (arg1 (dat1 dAbs)) [(sCall (arg1 (dat1 dInt)) [(sBin gIx (sBin gIx (sVar 0) (sCon (.int 0))) (sVar 2))])]))
  (sSeq (sPut (sVar 0) (sCon (.int 3)) (sBin (dat2 dMod) (sCall (arg1 (dat1 dInt)) [(sBin gAdd (sBin gAdd (sBin (dat2 dMul) (sBin gIx (sVar 0) (sCon (.int 3))) (sCon (.int 48271))) (sVar 2)) (sCon (.int 1)))]) (sCon (.int 2147483647))))
  (sSet 3 (sBin gIx (sVar 0) (sCon (.int 3))))))
  (sSeq (sPut (sVar 0) (sCon (.int 1)) (sBin gAdd (sVar 2) (sCon (.int 1))))
  (sSeq (sIte (sTst (sBin (cmp2 dLt) (sVar 3) (sBin (dat2 dPow) (sCon (.int 10)) (sCon (.int 18)))))
  (sSeq (sSet 3 (sBin (dat2 dMod) (sCall (arg1 (dat1 dInt)) [(sBin gAdd (sBin gAdd (sBin (dat2 dMul) (sVar 3) (sCon (.int 48271))) (sBin (dat2 dMul) (sVar 2) (sCon (.int 69621)))) (sCon (.int 5)))]) (sCon (.int 2147483647))))
  (sSeq (sSet 3 (sBin (dat2 dMod) (sCall (arg1 (dat1 dInt)) [(sBin (dat2 dMul) (sVar 3) (sCon (.int 69621)))]) (sCon (.int 2147483629))))
  (sRet (sBin (dat2 dMod) (sCall (arg1 (dat1 dInt)) [(sVar 3)]) (sCall (arg2 (dat2 dMax)) [(sVar 1), (sCon (.int 1))])))))
  sSkip)
  (sPut (sVar 0) (sCon (.int 2)) (sVar 3)))))))
  sSkip)
  (sSeq (sSet 3 (sBin gIx (sVar 0) (sCon (.int 2))))
  (sSeq (sPut (sVar 0) (sCon (.int 2)) (sBin (dat2 dFdiv) (sVar 3) (sCall (arg2 (dat2 dMax)) [(sVar 1), (sCon (.int 2))])))
  (sRet (sBin (dat2 dMod) (sCall (arg1 (dat1 dInt)) [(sVar 3)]) (sCall (arg2 (dat2 dMax)) [(sVar 1), (sCon (.int 1))]))))))
def b_law_pick (call : Str → GL) : SS :=
  (sRet (sBin gIx (sVar 1) (sCall (call "_law_draw") [(sVar 0), (sCall (arg1 gLen) [(sVar 1)])])))
def b_law_same (call : Str → GL) : SS :=
  (sSeq (sIte (sTst (sBin (gIsN false) (sVar 1) (sCon .none)))
  (sRet (sBin (gIsN false) (sVar 0) (sCon .none)))
  sSkip)
  (sSeq (sIte (sTru (sUn (gIsi "tuple") (sVar 1)))
  (sSeq (sIte (sOr (sNot (sTru (sUn (gIsi "tuple") (sVar 0)))) (sTst (sBin (cmp2 dNe) (sCall (arg1 gLen) [(sVar 0)]) (sCall (arg1 gLen) [(sVar 1)]))))
  (sRet (sCon (.bool false)))
  sSkip)
  (sRet (sBin (cmp2 dEq) (sComp [2] (sRng1 (sCall (arg1 gLen) [(sVar 1)])) (tNm 2) (sNot (sTru (sCall (call "_law_same") [(sBin gIx (sVar 0) (sVar 2)), (sBin gIx (sVar 1) (sVar 2))]))) (sVar 2)) (sCall gLst []))))
  sSkip)
  (sSeq (sIte (sOr (sTru (sUn (gIsi "bool") (sVar 1))) (sTru (sUn (gIsi "bool") (sVar 0))))
  (sRet (sAndV (sUn (gIsi "bool") (sVar 1)) (sAndV (sUn (gIsi "bool") (sVar 0)) (sBin (cmp2 dEq) (sVar 0) (sVar 1)))))
  sSkip)
  (sSeq (sIte (sTru (sUn (gIsi "str") (sVar 1)))
  (sRet (sAndV (sUn (gIsi "str") (sVar 0)) (sBin (cmp2 dEq) (sVar 0) (sVar 1))))
  sSkip)
  (sRet (sAndV (sUn (gIsi "int") (sVar 0)) (sBin (cmp2 dEq) (sVar 0) (sVar 1))))))))
def b_law_any_sign (call : Str → GL) : SS :=
  (sSeq (sSet 1 (sCon (.str " !\"#$&'()*+,-./0123456789:;<=>?@ABCDEFGHIJKLMNOPQRSTUVWXYZ[\\]^_`")))
  (sRet (sCall (call "_law_pick") [(sVar 0), (sBin gAdd (sVar 1) (sCon (.str "abcdefghijklmnopqrstuvwxyz{|}~")))])))
def b_law_tight_text (call : Str → GL) : SS :=
  (sSeq (sSet 2 (sCon (.str "!#$&'()*+,-./0123456789:;<=>?@ABCDEFGHIJKLMNOPQRSTUVWXYZ[\\]^_`")))
  (sSeq (sSet 2 (sBin gAdd (sVar 2) (sCon (.str "abcdefghijklmnopqrstuvwxyz{|}~"))))
  (sRet (sMetS gJoin (sCon (.str "")) [(sComp [3] (sRng1 (sVar 1)) (tNm 3) sYes (sCall (call "_law_pick") [(sVar 0), (sVar 2)]))]))))
def b_law_scalar (call : Str → GL) : SS :=
  (sSeq (sSet 1 (sCall (call "_law_draw") [(sVar 0), (sCon (.int 10))]))
  (sSeq (sIte (sTst (sBin (cmp2 dLt) (sVar 1) (sCon (.int 3))))
  (sRet (sBin gIx (sCall gLst [(sCall gTup [(sCon (.str "null"))]), (sCall gTup [(sCon (.str "false"))]), (sCall gTup [(sCon (.str "true"))])]) (sVar 1)))
  sSkip)
  (sSeq (sIte (sTst (sBin (cmp2 dEq) (sVar 1) (sCon (.int 3))))
  (sRet (sCall gTup [(sCon (.str "number")), (sCall (call "_law_pick") [(sVar 0), (sCall gLst [(sCon (.int 0)), (sBin (dat2 dPow) (sCon (.int 10)) (sCon (.int 9))), (sUn (dat1 dNeg) (sCon (.int 1000000000))), (sCon (.int 999999999))])])]))
  sSkip)
  (sSeq (sIte (sTst (sBin (cmp2 dLt) (sVar 1) (sCon (.int 7))))
  (sRet (sCall gTup [(sCon (.str "number")), (sBin (dat2 dSub) (sCall (call "_law_draw") [(sVar 0), (sCon (.int 25))]) (sCon (.int 12)))]))
  sSkip)
  (sSeq (sIte (sTst (sBin (cmp2 dEq) (sVar 1) (sCon (.int 7))))
  (sRet (sCall gTup [(sCon (.str "number")), (sBin (dat2 dSub) (sCall (call "_law_draw") [(sVar 0), (sCon (.int 2000000001))]) (sCon (.int 1000000000)))]))
  sSkip)
  (sSeq (sIte (sTst (sBin (cmp2 dEq) (sVar 1) (sCon (.int 8))))
  (sRet (sCall gTup [(sCon (.str "text")), (sCall (call "_law_pick") [(sVar 0), (sCall gLst [(sCon (.str "")), (sCon (.str " ")), (sCon (.str "1")), (sCon (.str "true")), (sCon (.str "null")), (sCon (.str "b")), (sCon (.str "a b")), (sCon (.str "record"))])])]))
  sSkip)
  (sRet (sCall gTup [(sCon (.str "text")), (sCall (call "_law_tight_text") [(sVar 0), (sCall (call "_law_pick") [(sVar 0), (sCall gLst [(sCon (.int 1)), (sCon (.int 2)), (sCon (.int 3)), (sCon (.int 60))])])])]))))))))
def b_law_worth (call : Str → GL) : SS :=
  (sSeq (sIte (sTst (sBin (cmp2 dEq) (sBin gIx (sVar 0) (sCon (.int 0))) (sCon (.str "number"))))
  (sRet (sCall gTup [(sCon (.int 3)), (sBin (dat2 dSub) (sBin (dat2 dMul) (sCon (.int 2)) (sCall (arg1 (dat1 dAbs)) [(sBin gIx (sVar 0) (sCon (.int 1)))])) (sCall (arg1 (dat1 dInt)) [(sBin (cmp2 dGt) (sBin gIx (sVar 0) (sCon (.int 1))) (sCon (.int 0)))])), (sCon (.str ""))]))
  sSkip)
  (sSeq (sIte (sTst (sBin (cmp2 dEq) (sBin gIx (sVar 0) (sCon (.int 0))) (sCon (.str "text"))))
  (sRet (sCall gTup [(sCon (.int 4)), (sCall (arg1 gLen) [(sBin gIx (sVar 0) (sCon (.int 1)))]), (sBin gIx (sVar 0) (sCon (.int 1)))]))
  sSkip)
  (sRet (sCall gTup [(sMetL gIndex (sCall gLst [(sCon (.str "null")), (sCon (.str "false")), (sCon (.str "true")), (sCon (.str "number")), (sCon (.str "text")), (sCon (.str "record"))]) [(sBin gIx (sVar 0) (sCon (.int 0)))]), (sCon (.int 0)), (sCon (.str ""))]))))
def b_law_sign (call : Str → GL) : SS :=
  (sRet (sBin (dat2 dSub) (sCall (arg1 (dat1 dInt)) [(sBin (cmp2 dGt) (sVar 0) (sVar 1))]) (sCall (arg1 (dat1 dInt)) [(sBin (cmp2 dLt) (sVar 0) (sVar 1))])))
def b_law_scalar_near (call : Str → GL) : SS :=
  (sSeq (sSet 2 (sCall (call "_law_draw") [(sVar 0), (sCon (.int 4))]))
  (sSeq (sIte (sAnd (sTst (sBin (cmp2 dEq) (sBin gIx (sVar 1) (sCon (.int 0))) (sCon (.str "number")))) (sTst (sBin (cmp2 dEq) (sVar 2) (sCon (.int 0)))))
  (sRet (sCall gTup [(sCon (.str "number")), (sUn (dat1 dNeg) (sBin gIx (sVar 1) (sCon (.int 1))))]))
  sSkip)
  (sSeq (sIte (sAnd (sTst (sBin (cmp2 dEq) (sBin gIx (sVar 1) (sCon (.int 0))) (sCon (.str "number")))) (sTst (sBin (cmp2 dEq) (sVar 2) (sCon (.int 1)))))
  (sRet (sCall gTup [(sCon (.str "number")), (sCall (arg2 (dat2 dMax)) [(sUn (dat1 dNeg) (sCon (.int 1000000000))), (sCall (arg2 (dat2 dMin)) [(sCon (.int 1000000000)), (sBin gAdd (sBin gIx (sVar 1) (sCon (.int 1))) (sCall (call "_law_pick") [(sVar 0), (sCall gLst [(sUn (dat1 dNeg) (sCon (.int 1))), (sCon (.int 1))])]))])])]))
  sSkip)
  (sSeq (sIte (sAnd (sTst (sBin (cmp2 dEq) (sBin gIx (sVar 1) (sCon (.int 0))) (sCon (.str "number")))) (sTst (sBin (cmp2 dEq) (sVar 2) (sCon (.int 2)))))
  (sRet (sCall gTup [(sCon (.str "text")), (sCall (arg1 (dat1 dStr)) [(sBin gIx (sVar 1) (sCon (.int 1)))])]))
  sSkip)
  (sSeq (sIte (sAnd (sTst (sBin (cmp2 dEq) (sBin gIx (sVar 1) (sCon (.int 0))) (sCon (.str "text")))) (sTst (sBin (cmp2 dLt) (sVar 2) (sCon (.int 2)))))
  (sSeq (sSet 3 (sCall (call "_law_draw") [(sVar 0), (sBin gAdd (sCall (arg1 gLen) [(sBin gIx (sVar 1) (sCon (.int 1)))]) (sCon (.int 1)))]))
  (sRet (sCall gTup [(sCon (.str "text")), (sSl (sBin gAdd (sBin gAdd (sSl (sBin gIx (sVar 1) (sCon (.int 1))) none (some (sVar 3))) (sCall (call "_law_any_sign") [(sVar 0)])) (sSl (sBin gIx (sVar 1) (sCon (.int 1))) (some (sBin gAdd (sVar 3) (sVar 2))) none)) none (some (sCon (.int 60))))])))
  sSkip)
  (sSeq (sIte (sAnd (sTst (sBin (cmp2 dEq) (sBin gIx (sVar 1) (sCon (.int 0))) (sCon (.str "text")))) (sTst (sBin (cmp2 dEq) (sVar 2) (sCon (.int 2)))))
  (sRet (sCall gTup [(sCon (.str "text")), (sSl (sBin gIx (sVar 1) (sCon (.int 1))) none (some (sUn (dat1 dNeg) (sCon (.int 1)))))]))
  sSkip)
  (sSeq (sIte (sTst (sBin (cmp2 dEq) (sVar 2) (sCon (.int 3))))
  (sRet (sCall (call "_law_scalar") [(sVar 0)]))
  sSkip)
  (sRet (sCall (call "_law_pick") [(sVar 0), (sCall gLst [(sCall gTup [(sCon (.str "null"))]), (sCall gTup [(sCon (.str "false"))]), (sCall gTup [(sCon (.str "true"))]), (sCall gTup [(sCon (.str "text")), (sBin gIx (sVar 1) (sCon (.int 0)))]), (sCall gTup [(sCon (.str "number")), (sCon (.int 0))]), (sCall gTup [(sCon (.str "text")), (sCon (.str ""))])])])))))))))
def b_law (call : Str → GL) : SS :=
  (sSeq (sSet 1 (sCall (call "_law_tape") [(sVar 0)]))
  (sSeq (sSet 2 (sCall gNew [(sCall (call "_law_scalar") [(sVar 1)]), (sCall (call "_law_scalar") [(sVar 1)])]))
  (sSeq (sFor (sRng1 (sCon (.int 4))) (tNm 3)
  (sDrop (sMetO gAppend (sVar 2) [(sCall (call "_law_scalar_near") [(sVar 1), (sCall (call "_law_pick") [(sVar 1), (sVar 2)])])])))
  (sSeq (sFor (sIter (sVar 2)) (tNm 4)
  (sFor (sIter (sVar 2)) (tNm 5)
  (sSeq (sSet 6 (sCall (call "_law_sign") [(sCall (call "_law_worth") [(sVar 4)]), (sCall (call "_law_worth") [(sVar 5)])]))
  (sIte (sNot (sTru (sCall (call "_law_same") [(sCall (call "compare_scalars") [(sVar 4), (sVar 5)]), (sVar 6)])))
  (sRet (sCon (.bool false)))
  sSkip))))
  (sRet (sCon (.bool true)))))))
def e_compare_ranks : Ent := ⟨"compare_ranks", topS 1, ["first", "second"], ["first", "second"], false, [], b_compare_ranks⟩
def e_scalar_rank : Ent := ⟨"scalar_rank", topS 4, ["scalar"], ["scalar", "word", "number"], false, [], b_scalar_rank⟩
def e_compare_scalars : Ent := ⟨"compare_scalars", topS 5, ["first", "second"], ["first", "second"], false, [], b_compare_scalars⟩
def e_law_tape : Ent := ⟨"_law_tape", topS 7, ["script"], ["script", "total", "cell"], true, [27011], b_law_tape⟩
def e_law_draw : Ent := ⟨"_law_draw", topS 8, ["tape", "many"], ["tape", "many", "place", "number"], false, [], b_law_draw⟩
def e_law_pick : Ent := ⟨"_law_pick", topS 9, ["tape", "row"], ["tape", "row"], false, [], b_law_pick⟩
def e_law_same : Ent := ⟨"_law_same", topS 10, ["actual", "expected"], ["actual", "expected", "k"], false, [], b_law_same⟩
def e_law_any_sign : Ent := ⟨"_law_any_sign", topS 11, ["tape"], ["tape", "signs"], false, [], b_law_any_sign⟩
def e_law_tight_text : Ent := ⟨"_law_tight_text", topS 12, ["tape", "many"], ["tape", "many", "signs", "k"], false, [], b_law_tight_text⟩
def e_law_scalar : Ent := ⟨"_law_scalar", topS 13, ["tape"], ["tape", "choice"], false, [], b_law_scalar⟩
def e_law_worth : Ent := ⟨"_law_worth", topS 14, ["content"], ["content"], false, [], b_law_worth⟩
def e_law_sign : Ent := ⟨"_law_sign", topS 15, ["first", "second"], ["first", "second"], false, [], b_law_sign⟩
def e_law_scalar_near : Ent := ⟨"_law_scalar_near", topS 16, ["tape", "scalar"], ["tape", "scalar", "choice", "at"], false, [], b_law_scalar_near⟩
def e_law : Ent := ⟨"law", topS 17, ["script"], ["script", "tape", "scalars", "k", "first", "second", "due"], false, [106014], b_law⟩
def T : List Ent := [e_compare_ranks, e_scalar_rank, e_compare_scalars, e_law_tape, e_law_draw, e_law_pick, e_law_same, e_law_any_sign, e_law_tight_text, e_law_scalar, e_law_worth, e_law_sign, e_law_scalar_near, e_law]
theorem u_compare_ranks {k : Nat} {x0 x1 : Vl} {S : Sto} : run T (k + 1) "compare_ranks" [x0, x1] S = fnEnd false S.length (b_compare_ranks (run T k) [some x0, some x1] S) := by kernel_rfl
theorem u_scalar_rank {k : Nat} {x0 : Vl} {S : Sto} : run T (k + 1) "scalar_rank" [x0] S = fnEnd false S.length (b_scalar_rank (run T k) [some x0, none, none] S) := by kernel_rfl
theorem u_compare_scalars {k : Nat} {x0 x1 : Vl} {S : Sto} : run T (k + 1) "compare_scalars" [x0, x1] S = fnEnd false S.length (b_compare_scalars (run T k) [some x0, some x1] S) := by kernel_rfl
theorem u_law_tape {k : Nat} {x0 : Vl} {S : Sto} : run T (k + 1) "_law_tape" [x0] S = fnEnd true S.length (b_law_tape (run T k) [some x0, none, none] S) := by kernel_rfl
theorem u_law_draw {k : Nat} {x0 x1 : Vl} {S : Sto} : run T (k + 1) "_law_draw" [x0, x1] S = fnEnd false S.length (b_law_draw (run T k) [some x0, some x1, none, none] S) := by kernel_rfl
theorem u_law_pick {k : Nat} {x0 x1 : Vl} {S : Sto} : run T (k + 1) "_law_pick" [x0, x1] S = fnEnd false S.length (b_law_pick (run T k) [some x0, some x1] S) := by kernel_rfl
theorem u_law_same {k : Nat} {x0 x1 : Vl} {S : Sto} : run T (k + 1) "_law_same" [x0, x1] S = fnEnd false S.length (b_law_same (run T k) [some x0, some x1, none] S) := by kernel_rfl
theorem u_law_any_sign {k : Nat} {x0 : Vl} {S : Sto} : run T (k + 1) "_law_any_sign" [x0] S = fnEnd false S.length (b_law_any_sign (run T k) [some x0, none] S) := by kernel_rfl
theorem u_law_tight_text {k : Nat} {x0 x1 : Vl} {S : Sto} : run T (k + 1) "_law_tight_text" [x0, x1] S = fnEnd false S.length (b_law_tight_text (run T k) [some x0, some x1, none, none] S) := by kernel_rfl
theorem u_law_scalar {k : Nat} {x0 : Vl} {S : Sto} : run T (k + 1) "_law_scalar" [x0] S = fnEnd false S.length (b_law_scalar (run T k) [some x0, none] S) := by kernel_rfl
theorem u_law_worth {k : Nat} {x0 : Vl} {S : Sto} : run T (k + 1) "_law_worth" [x0] S = fnEnd false S.length (b_law_worth (run T k) [some x0] S) := by kernel_rfl
theorem u_law_sign {k : Nat} {x0 x1 : Vl} {S : Sto} : run T (k + 1) "_law_sign" [x0, x1] S = fnEnd false S.length (b_law_sign (run T k) [some x0, some x1] S) := by kernel_rfl
theorem u_law_scalar_near {k : Nat} {x0 x1 : Vl} {S : Sto} : run T (k + 1) "_law_scalar_near" [x0, x1] S = fnEnd false S.length (b_law_scalar_near (run T k) [some x0, some x1, none, none] S) := by kernel_rfl
theorem u_law {k : Nat} {x0 : Vl} {S : Sto} : run T (k + 1) "law" [x0] S = fnEnd false S.length (b_law (run T k) [some x0, none, none, none, none, none, none] S) := by kernel_rfl
end L2.Pv

set_option Elab.async false
set_option linter.all false
set_option maxRecDepth 100000
namespace L2.Pv
open PySem PySem.Spec PyProof.Rows L2
theorem draw_end {t : Nat} {n : Int} {S S' : Sto} (hk : Kp t S S') (x : Int) : ∃ d, Fl.rt (Vl.d (PyData.int (x % (if 1 > n then 1 else n)))) = Fl.rt (Vl.d d) ∧ (∃ r, Vl.d d = Vl.d (PyData.int r) ∧ 0 ≤ r ∧ r < max n 1) ∧ Kp t S S' := by
  have h : 0 < (if 1 > n then 1 else n) := by split <;> omega
  have h2 := Int.emod_lt_of_pos x h
  have h3 : (if 1 > n then 1 else n) = max n 1 := by split <;> omega
  exact ⟨_, rfl, ⟨_, rfl, Int.emod_nonneg _ (by omega), by omega⟩, hk⟩
theorem sat_draw {k t : Nat} {n : Int} {S : Sto} (h : Tp S t) (hn : n < 4611686018427387904) : Gen t S (run T (k + 1) "_law_draw" [.o t, .d (.int n)] S) fun v => ∃ r : Int, v = .d (.int r) ∧ 0 ≤ r ∧ r < max n 1 := by
  obtain ⟨ns, p, c, m, e, hp, hc⟩ := h.ex
  rw [u_law_draw]
  refine Gen.end ?_
  unfold b_law_draw
  have hp1 : 0 < (if 1 > n then 1 else n) := by split <;> omega
  have hp2 : 0 < (if 2 > n then 2 else n) := by split <;> omega
  have hp3 : (if 2 > n then 2 else n) < 18446744073709551616 := by split <;> omega
  have hl := lst_lt e
  simp (decide := true) only [EV, e]
  refine Sat_pickB (fun hb => ?_) fun hb => ?_
  · simp (decide := true) only [EV, e, List.length_map]
    refine Sat_pickB (fun hb2 => ?_) fun hb2 => ?_
    · obtain ⟨x, hx⟩ := atI_map hp (of_decide_eq_true hb2)
      simp (decide := true) only [EV, e, hx]
      refine Sat_pickB (fun hb3 => ?_) fun hb3 => ?_
      · simp (decide := true) only [EV, e, hp1]
        exact draw_end (Kp.set hl (by omega) hc) _
      · simp (decide := true) only [EV, e, lst_set e, set_set, hp1, hp2, hp3]
        exact draw_end (Kp.set hl (by omega) (Int.ediv_nonneg int_nn (by omega))) _
    · have hz : decide ((m * 48271 + p + 1) % 2147483647 < 1000000000000000000) = true := decide_eq_true (by omega)
      simp (decide := true) only [EV, e, lst_set e, set_set, hz, hp1]
      exact draw_end (Kp.set hl (by omega) hc) _
  · simp (decide := true) only [EV, e, lst_set e, set_set, hp1, hp2, hp3]
    exact draw_end (Kp.set hl (by omega) (Int.ediv_nonneg hc (by omega))) _
theorem sat_pickL {k t : Nat} {ds : List PyData} {S : Sto} (h : Tp S t) (h0 : 0 < ds.length) (hn : ds.length < 1073741824) : Gen t S (run T (k + 2) "_law_pick" [.o t, .d (.list ds)] S) fun v => ∃ d, v = .d d ∧ d ∈ ds := by
  rw [u_law_pick]
  refine Gen.end ?_
  unfold b_law_pick
  simp (decide := true) only [EV]
  refine Gen.then (Kp.refl h) (sat_draw h (by omega)) fun v S' ⟨r, e, h1, h2⟩ hk => ?_
  subst e
  obtain ⟨x, e, hx⟩ := atI_in (xs := ds) h1 (by omega)
  simp (decide := true) only [EV, e]
  exact ⟨_, rfl, ⟨_, rfl, hx⟩, hk⟩
theorem sat_pickS {k t : Nat} {z : Str} {S : Sto} (h : Tp S t) (h0 : 0 < z.length) (hn : z.length ≤ 1000) : Gen t S (run T (k + 2) "_law_pick" [.o t, .d (.str z)] S) fun v => ∃ c, v = .d (.str ⟨#[c]⟩) ∧ c ∈ z.cps.toList := by
  rw [u_law_pick]
  refine Gen.end ?_
  unfold b_law_pick
  simp (decide := true) only [EV, l_sz hn]
  refine Gen.then (Kp.refl h) (sat_draw h (by omega)) fun v S' ⟨r, e, h1, h2⟩ hk => ?_
  subst e
  obtain ⟨x, e, hx⟩ := atI_in (xs := z.cps.toList) h1 (by show r < (z.cps.size : Int); have : z.length = z.cps.size := rfl; omega)
  simp (decide := true) only [EV, e, l_sz hn]
  exact ⟨_, rfl, ⟨_, rfl, hx⟩, hk⟩
theorem sat_any_sign {k t : Nat} {S : Sto} (h : Tp S t) : Gen t S (run T (k + 3) "_law_any_sign" [.o t] S) fun v => ∃ c, v = .d (.str ⟨#[c]⟩) ∧ 32 ≤ c ∧ c ≤ 126 ∧ c ≠ 37 := by
  rw [u_law_any_sign]
  refine Gen.end ?_
  unfold b_law_any_sign
  simp (decide := true) only [EV]
  refine Gen.then (Kp.refl h) (sat_pickS h ?_ ?_) fun v S' ⟨c, e, hc⟩ hk => ?_
  · decide +kernel
  · decide +kernel
  subst e
  exact ⟨_, rfl, ⟨c, rfl, (show ∀ c ∈ ((" !\"#$&'()*+,-./0123456789:;<=>?@ABCDEFGHIJKLMNOPQRSTUVWXYZ[\\]^_`" : Str) ++ ("abcdefghijklmnopqrstuvwxyz{|}~" : Str)).cps.toList, 32 ≤ c ∧ c ≤ 126 ∧ c ≠ 37 by decide +kernel) c hc⟩, hk⟩
theorem tape_sat {k : Nat} {ns : List Int} : (run T (k + 1) "_law_tape" [.k (ns.map .int)] []).Sat fun v S => ∃ m : Int, v = .o 0 ∧ S = [.lst [.list (ns.map .int), .int 0, .int 0, .int m]] := by
  rw [u_law_tape, Sat_end]
  unfold b_law_tape
  simp (decide := true) only [EV]
  refine Sat_forC (all := ns) (g := PyData.int) (fun _ Γ S => S = [] ∧ ∃ (m : Int) (o : Option Vl), Γ = [some (.k (ns.map .int)), some (.d (.int m)), o]) ⟨rfl, _, _, rfl⟩ ?_ ?_
  · rintro d rest Γ S hd ⟨rfl, m, o, rfl⟩
    refine ⟨_, rfl, ?_⟩
    simp (decide := true) only [EV]
    exact ⟨rfl, _, _, rfl⟩
  · rintro Γ S ⟨rfl, m, o, rfl⟩
    simp (decide := true) only [EV]
    exact ⟨m, rfl, rfl⟩
theorem tape_eq {k : Nat} {ns : List Int} : ∃ m : Int, run T (k + 1) "_law_tape" [.k (ns.map .int)] [] = .ok (.o 0) [.lst [.list (ns.map .int), .int 0, .int 0, .int m]] := by
  have h := tape_sat (k := k) (ns := ns)
  revert h
  generalize run T (k + 1) "_law_tape" [.k (ns.map .int)] [] = r
  intro h
  cases r with
  | bad => exact h.elim
  | ok v S =>
    obtain ⟨m, rfl, rfl⟩ := h
    exact ⟨m, rfl⟩
theorem tape_tp {ns : List Int} {m : Int} : Tp [.lst [.list (ns.map .int), .int 0, .int 0, .int m]] 0 := ⟨ns, 0, 0, m, rfl, by decide, by decide⟩
theorem tape_ex {k : Nat} (ns : List Int) : ∃ S0 : Sto, run T (k + 1) "_law_tape" [.k (ns.map .int)] [] = .ok (.o 0) S0 ∧ Tp S0 0 ∧ S0.length = 1 := by
  obtain ⟨m, e⟩ := tape_eq (k := k) (ns := ns)
  exact ⟨_, e, tape_tp, rfl⟩
theorem same_self : ∀ (n : Nat) {d : PyData} {k : Nat} {S : Sto}, Plain d → d.depth ≤ n → run T (n + k + 1) "_law_same" [.d d, .d d] S = .ok (.d (.bool true)) S := by
  intro n
  induction n with
  | zero =>
    intro d k S hp hd
    rw [Nat.zero_add, u_law_same]
    unfold b_law_same
    cases hp with
    | non => simp (decide := true) only [EV, isi_tab, fnEnd, fin_d, take_all]
    | bl b => simp (decide := true) only [EV, isi_tab, fnEnd, fin_d, take_all]
    | int i => simp (decide := true) only [EV, isi_tab, fnEnd, fin_d, take_all]
    | str x => simp (decide := true) only [EV, isi_tab, fnEnd, fin_d, take_all]
    | tup ds h hl => exact absurd hd (by show ¬(PyData.depthAll ds + 1 ≤ 0); omega)
  | succ n ih =>
    intro d k S hp hd
    rw [show n + 1 + k + 1 = (n + k + 1) + 1 by omega, u_law_same]
    unfold b_law_same
    cases hp with
    | non => simp (decide := true) only [EV, isi_tab, fnEnd, fin_d, take_all]
    | bl b => simp (decide := true) only [EV, isi_tab, fnEnd, fin_d, take_all]
    | int i => simp (decide := true) only [EV, isi_tab, fnEnd, fin_d, take_all]
    | str x => simp (decide := true) only [EV, isi_tab, fnEnd, fin_d, take_all]
    | tup ds h hl =>
      have hd' : PyData.depthAll ds ≤ n := by
        have : PyData.depth (.tuple ds) = PyData.depthAll ds + 1 := rfl
        omega
      have hr : (ds.length : Int) ≤ 1000000 := by omega
      simp (decide := true) only [EV, isi_tab, rng_ok (Int.natCast_nonneg ds.length) hr, rng_fuel (i := 0) hr]
      rw [rng_map, comp_filtg _ (fun _ => false) (fun j : Nat => .int (0 + (j : Int))) fun j hj => ?_]
      · rw [List.filter_eq_nil_iff.mpr fun _ _ => Bool.false_ne_true]
        simp (decide := true) only [EV, List.map_nil, eq_nil, List.isEmpty_nil, fnEnd, fin_d, take_all]
      · have hj : j < ds.length := by simpa using hj
        have h1 := ih (k := k) (S := S) (h ds[j] (List.getElem_mem hj)) (Nat.le_trans (depth_mem (List.getElem_mem hj)) hd')
        refine ⟨_, rfl, ?_, fun e => absurd e Bool.false_ne_true⟩
        simp (decide := true) only [EV, Int.zero_add, atI_nat hj, h1]
/-- scalars -/
inductive Sc where
  | nul
  | fls
  | tru
  | num (i : Int)
  | txt (x : Str)
  deriving DecidableEq
def Sc.d : Sc → PyData
  | .nul => .tuple [.str "null"]
  | .fls => .tuple [.str "false"]
  | .tru => .tuple [.str "true"]
  | .num i => .tuple [.str "number", .int i]
  | .txt x => .tuple [.str "text", .str x]
theorem Sc.depth (s : Sc) : s.d.depth = 1 := by cases s <;> rfl
theorem Sc.eqv (a b : Sc) : PyData.eqv a.d b.d = decide (a = b) := by
  cases a <;> cases b <;> first
    | rfl
    | (simp only [Sc.d, PyData.eqv, PyData.eqvAll]
       simp
       rfl)
theorem Sc.eq (a b : Sc) : dEq a.d b.d = some (.bool (decide (a = b))) := by
  unfold dEq dEqB
  rw [if_pos (show min a.d.depth b.d.depth ≤ 60 by rw [Sc.depth]; exact Nat.le_trans (Nat.min_le_left _ _) (by decide)), Sc.eqv]
  rfl
theorem Sc.plain (s : Sc) : Plain s.d := by
  cases s <;> exact .tup _ (fun d hd => by
    simp only [List.mem_cons, List.mem_nil_iff, or_false] at hd
    first
      | (subst hd; constructor)
      | (rcases hd with rfl | rfl <;> constructor)) (by simp)
/-- drawn ones: not too large -/
def ScOk : Sc → Prop
  | .num i => -1000001000 ≤ i ∧ i ≤ 1000001000
  | .txt x => x.length ≤ 100
  | _ => True
theorem pow9 : dPow (.int 10) (.int 9) = some (.int 1000000000) := rfl
theorem sat_tight {k t : Nat} {n : Int} {S : Sto} (h : Tp S t) (h0 : 0 ≤ n) (hn : n ≤ 100000) : Gen t S (run T (k + 3) "_law_tight_text" [.o t, .d (.int n)] S) fun v => ∃ x, v = .d (.str x) ∧ x.length = n.toNat ∧ ∀ c ∈ ts x, 33 ≤ c ∧ c ≤ 126 ∧ c ≠ 37 ∧ c ≠ 34 := by
  rw [u_law_tight_text]
  refine Gen.end ?_
  unfold b_law_tight_text
  simp (decide := true) only [EV, rng_ok h0 (Int.le_trans hn (by decide)), rng_fuel (i := 0) (Int.le_trans hn (by decide : (100000 : Int) ≤ 1000000))]
  refine Gen.comp (P := fun y => ∃ x, y = .str x ∧ x.length = 1 ∧ ∀ c ∈ ts x, 33 ≤ c ∧ c ≤ 126 ∧ c ≠ 37 ∧ c ≠ 34) (Kp.refl h) (fun d S' hk hd => ⟨_, rfl, ?_⟩) fun ys S' hl hp hk => ?_
  · simp (decide := true) only [EV]
    refine (sat_pickS hk.tp (by decide) (by decide)).mono fun v ⟨c, e, hc⟩ => ⟨_, e, _, rfl, rfl, fun c' hc' => ?_⟩
    rw [List.mem_singleton.mp hc']
    exact (show ∀ c ∈ ts (("!#$&'()*+,-./0123456789:;<=>?@ABCDEFGHIJKLMNOPQRSTUVWXYZ[\\]^_`" : Str) ++ ("abcdefghijklmnopqrstuvwxyz{|}~" : Str)), 33 ≤ c ∧ c ≤ 126 ∧ c ≠ 37 ∧ c ≠ 34 by decide +kernel) c hc
  · obtain ⟨zs, e, hz⟩ := all_strs hp
    subst e
    rw [List.length_map, rng_len] at hl
    simp (decide := true) only [EV, j_join (n := 1) (a := "") rfl (fun z hz1 => Nat.le_of_eq (hz z hz1).1) (show zs.length * 1 ≤ SZ by unfold SZ; omega)]
    refine ⟨_, rfl, ⟨_, rfl, ?_, fun c hc => ?_⟩, hk⟩
    · rw [len_join0 rfl, ← hl]
      have : ∀ l : List Str, (∀ z ∈ l, z.length = 1) → (l.map (·.length)).sum = l.length := fun l => by
        induction l with
        | nil => intro _; rfl
        | cons a r ih =>
          intro h
          rw [List.map_cons, List.sum_cons, ih fun z hz => h z (List.mem_cons_of_mem _ hz), h a List.mem_cons_self, List.length_cons]
          omega
      exact this zs fun z hz1 => (hz z hz1).1
    · rw [ts_join0 rfl] at hc
      obtain ⟨l, hl, hc⟩ := List.mem_flatten.mp hc
      obtain ⟨z, hz1, rfl⟩ := List.mem_map.mp hl
      exact (hz z hz1).2 c hc
theorem three {r : Int} (h0 : 0 ≤ r) (h : r < 3) : ∃ s : Sc, ScOk s ∧ atI [PyData.tuple [.str "null"], .tuple [.str "false"], .tuple [.str "true"]] r = some s.d := by
  have : r = 0 ∨ r = 1 ∨ r = 2 := by omega
  rcases this with rfl | rfl | rfl
  · exact ⟨.nul, trivial, rfl⟩
  · exact ⟨.fls, trivial, rfl⟩
  · exact ⟨.tru, trivial, rfl⟩
theorem sat_scalar {k t : Nat} {S : Sto} (h : Tp S t) : Gen t S (run T (k + 4) "_law_scalar" [.o t] S) fun v => ∃ s : Sc, v = .d s.d ∧ ScOk s := by
  rw [u_law_scalar]
  refine Gen.end ?_
  unfold b_law_scalar
  simp (decide := true) only [EV]
  refine Gen.then (Kp.refl h) (sat_draw h (by decide)) fun v S1 ⟨r, e, hr0, hr1⟩ hk => ?_
  subst e
  simp (decide := true) only [EV]
  refine Sat_pickB (fun hb => ?_) fun _ => ?_
  · obtain ⟨s, hs, e⟩ := three hr0 (of_decide_eq_true hb)
    simp (decide := true) only [EV, e]
    exact ⟨_, rfl, ⟨s, rfl, hs⟩, hk⟩
  simp (decide := true) only [EV]
  refine Sat_pickB (fun _ => ?_) fun _ => ?_
  · simp (decide := true) only [EV, pow9]
    refine Gen.then hk (sat_pickL hk.tp (by decide) (by decide)) fun v S2 ⟨d, e, hd⟩ hk => ?_
    subst e
    have hm : ∃ m : Int, d = .int m ∧ -1000001000 ≤ m ∧ m ≤ 1000001000 := by
      simp only [List.mem_cons, List.mem_nil_iff, or_false] at hd
      rcases hd with rfl | rfl | rfl | rfl <;> exact ⟨_, rfl, by decide, by decide⟩
    obtain ⟨m, rfl, hm⟩ := hm
    simp (decide := true) only [EV]
    exact ⟨_, rfl, ⟨.num m, rfl, hm⟩, hk⟩
  simp (decide := true) only [EV]
  refine Sat_pickB (fun _ => ?_) fun _ => ?_
  · simp (decide := true) only [EV]
    refine Gen.then hk (sat_draw hk.tp (by decide)) fun v S2 ⟨m, e, hm0, hm1⟩ hk => ?_
    subst e
    simp (decide := true) only [EV]
    exact ⟨_, rfl, ⟨.num (m - 12), rfl, by constructor <;> omega⟩, hk⟩
  simp (decide := true) only [EV]
  refine Sat_pickB (fun _ => ?_) fun _ => ?_
  · simp (decide := true) only [EV]
    refine Gen.then hk (sat_draw hk.tp (by decide)) fun v S2 ⟨m, e, hm0, hm1⟩ hk => ?_
    subst e
    simp (decide := true) only [EV]
    exact ⟨_, rfl, ⟨.num (m - 1000000000), rfl, by constructor <;> omega⟩, hk⟩
  simp (decide := true) only [EV]
  refine Sat_pickB (fun _ => ?_) fun _ => ?_
  · simp (decide := true) only [EV]
    refine Gen.then hk (sat_pickL hk.tp (by decide) (by decide)) fun v S2 ⟨d, e, hd⟩ hk => ?_
    subst e
    have hm : ∃ x : Str, d = .str x ∧ x.length ≤ 100 := by
      simp only [List.mem_cons, List.mem_nil_iff, or_false] at hd
      rcases hd with rfl | rfl | rfl | rfl | rfl | rfl | rfl | rfl <;> exact ⟨_, rfl, by decide⟩
    obtain ⟨x, rfl, hx⟩ := hm
    simp (decide := true) only [EV]
    exact ⟨_, rfl, ⟨.txt x, rfl, hx⟩, hk⟩
  simp (decide := true) only [EV]
  refine Gen.then hk (sat_pickL hk.tp (by decide) (by decide)) fun v S2 ⟨d, e, hd⟩ hk => ?_
  subst e
  have hm : ∃ m : Int, d = .int m ∧ 0 ≤ m ∧ m ≤ 60 := by
    simp only [List.mem_cons, List.mem_nil_iff, or_false] at hd
    rcases hd with rfl | rfl | rfl | rfl <;> exact ⟨_, rfl, by decide, by decide⟩
  obtain ⟨m, rfl, hm0, hm1⟩ := hm
  refine Gen.then hk (sat_tight hk.tp hm0 (by omega)) fun v S3 ⟨x, e, hx, _⟩ hk => ?_
  subst e
  simp (decide := true) only [EV]
  exact ⟨_, rfl, ⟨.txt x, rfl, by show x.length ≤ 100; omega⟩, hk⟩
theorem sat_pickO {k t n : Nat} {ds : List PyData} {S : Sto} (h : Tp S t) (hn : n ≠ t) (e : lstOf S n = some ds) (h0 : 0 < ds.length) (hl : ds.length < 1073741824) : Gen t S (run T (k + 2) "_law_pick" [.o t, .o n] S) fun v => ∃ d, v = .d d ∧ d ∈ ds := by
  rw [u_law_pick]
  refine Gen.end ?_
  unfold b_law_pick
  simp (decide := true) only [EV, e]
  refine Gen.then (Kp.refl h) (sat_draw h (by omega)) fun v S' ⟨r, e2, h1, h2⟩ hk => ?_
  subst e2
  obtain ⟨x, e3, hx⟩ := atI_in (xs := ds) h1 (by omega)
  simp (decide := true) only [EV, hk.lst hn e, e3]
  exact ⟨_, rfl, ⟨_, rfl, hx⟩, hk⟩
/-- what a scalar is worth -/
def rkS : Sc → PyData
  | .nul => .tuple [.int 0, .int 0, .str ""]
  | .fls => .tuple [.int 1, .int 0, .str ""]
  | .tru => .tuple [.int 2, .int 0, .str ""]
  | .num i => .tuple [.int 3, .int (if 0 < i then 2 * i - 1 else -2 * i), .str ""]
  | .txt x => .tuple [.int 4, .int x.length, .str x]
theorem rk_form (s : Sc) : ∃ (a b : Int) (x : Str), rkS s = .tuple [.int a, .int b, .str x] := by cases s <;> exact ⟨_, _, _, rfl⟩
def ltS (a b : Sc) : Bool := PySem.W.dataLt (rkS a) (rkS b)
theorem lt_rkS (a b : Sc) : dLt (rkS a) (rkS b) = some (.bool (ltS a b)) := by
  unfold ltS
  obtain ⟨a1, a2, a3, e1⟩ := rk_form a
  obtain ⟨b1, b2, b3, e2⟩ := rk_form b
  rw [e1, e2]
  rfl
theorem gt_rkS (a b : Sc) : dGt (rkS a) (rkS b) = some (.bool (ltS b a)) := lt_rkS b a
theorem ltS_asymm {a b : Sc} (h : ltS a b = true) : ltS b a = false := by
  cases h2 : ltS b a with
  | false => rfl
  | true =>
    have := PyProof.Rows.lex_trans _ _ _ h h2
    rw [PyProof.Rows.lex_irrefl] at this
    cases this
def cmpS (a b : Sc) : Int := pick (ltS a b) (-1) (pick (ltS b a) 1 0)
theorem ixC0 (S : Sto) : gIndexC ["null", "false", "true"] (.d (.str "null")) S = .ok (.d (.int 0)) S ∧ gIndexC ["null", "false", "true"] (.d (.str "false")) S = .ok (.d (.int 1)) S ∧ gIndexC ["null", "false", "true"] (.d (.str "true")) S = .ok (.d (.int 2)) S := ⟨rfl, rfl, rfl⟩
theorem scalar_rank_eq {k : Nat} {s : Sc} {S : Sto} (h : ScOk s) : run T (k + 1) "scalar_rank" [.d s.d] S = .ok (.d (rkS s)) S := by
  rw [u_scalar_rank]
  unfold b_scalar_rank
  cases s with
  | nul => simp (decide := true) only [EV, Sc.d, ixC0, fnEnd, fin_d, take_all, rkS]
  | fls => simp (decide := true) only [EV, Sc.d, ixC0, fnEnd, fin_d, take_all, rkS]
  | tru => simp (decide := true) only [EV, Sc.d, ixC0, fnEnd, fin_d, take_all, rkS]
  | num i =>
    simp (decide := true) only [EV, Sc.d, rkS]
    by_cases hi : 0 < i
    · rw [decide_eq_true hi, if_pos hi]
      simp (decide := true) only [EV, fnEnd, fin_d, take_all]
    · rw [decide_eq_false hi, if_neg hi]
      simp (decide := true) only [EV, fnEnd, fin_d, take_all]
  | txt x =>
    have hx : x.length ≤ 100 := h
    simp (decide := true) only [EV, Sc.d, rkS, l_sz (Nat.le_trans hx (by decide)), fnEnd, fin_d, take_all]
theorem met_idx {Γ : Env} {S : Sto} {fo fe : SE} {ds : List PyData} {v : Vl} {r : R Vl} (h1 : fo Γ S = .ok (.d (.list ds)) S) (h2 : fe Γ S = .ok v S) (h3 : gIndex (.d (.list ds)) [v] S = r) : sMetL gIndex fo [fe] Γ S = r := by
  unfold sMetL
  rw [h1]
  show ((sArgs [fe] Γ S).bind fun vs S2 => gIndex (.d (.list ds)) vs S2) = r
  show (((fe Γ S).bind fun v S1 => (R.ok [] S1).bind fun vs S2 => R.ok (v :: vs) S2).bind fun vs S2 => gIndex (.d (.list ds)) vs S2) = r
  rw [h2]
  exact h3
theorem law_worth_eq {k : Nat} {s : Sc} {S : Sto} (h : ScOk s) : run T (k + 1) "_law_worth" [.d s.d] S = .ok (.d (rkS s)) S := by
  rw [u_law_worth]
  unfold b_law_worth
  have ix : ∀ (w : Str) (j : Int), gIndex (.d (.list [.str "null", .str "false", .str "true", .str "number", .str "text", .str "record"])) [.d (.str w)] S = .ok (.d (.int j)) S → (sMetL gIndex (sCall gLst [(sCon (.str "null")), (sCon (.str "false")), (sCon (.str "true")), (sCon (.str "number")), (sCon (.str "text")), (sCon (.str "record"))]) [(sBin gIx (sVar 0) (sCon (.int 0)))]) [some (.d (.tuple [.str w]))] S = .ok (.d (.int j)) S := fun w j h =>
    met_idx rfl rfl h
  cases s with
  | nul => simp (decide := true) only [EV, Sc.d, ix "null" 0 rfl, fnEnd, fin_d, take_all, rkS]
  | fls => simp (decide := true) only [EV, Sc.d, ix "false" 1 rfl, fnEnd, fin_d, take_all, rkS]
  | tru => simp (decide := true) only [EV, Sc.d, ix "true" 2 rfl, fnEnd, fin_d, take_all, rkS]
  | num i =>
    simp (decide := true) only [EV, Sc.d, rkS, fnEnd, fin_d, take_all]
    congr 6
    by_cases hi : 0 < i
    · rw [decide_eq_true hi, if_pos hi, if_neg (by omega)]
      simp
    · rw [decide_eq_false hi, if_neg hi]
      by_cases h0 : i < 0
      · rw [if_pos h0]
        simp
        omega
      · rw [if_neg h0]
        simp
        omega
  | txt x =>
    have hx : x.length ≤ 100 := h
    simp (decide := true) only [EV, Sc.d, rkS, l_sz (Nat.le_trans hx (by decide)), fnEnd, fin_d, take_all]
theorem compare_eq {k : Nat} {a b : Sc} {S : Sto} (ha : ScOk a) (hb : ScOk b) : run T (k + 2) "compare_scalars" [.d a.d, .d b.d] S = .ok (.d (.int (cmpS a b))) S := by
  rw [u_compare_scalars]
  unfold b_compare_scalars
  simp (decide := true) only [EV, scalar_rank_eq (k := k) ha, scalar_rank_eq (k := k) hb]
  rw [u_compare_ranks]
  unfold b_compare_ranks cmpS
  simp (decide := true) only [EV, lt_rkS]
  cases ltS a b
  · simp (decide := true) only [EV, lt_rkS]
    cases ltS b a
    · simp (decide := true) only [EV, fnEnd, fin_d, take_all]
    · simp (decide := true) only [EV, fnEnd, fin_d, take_all]
  · simp (decide := true) only [EV, fnEnd, fin_d, take_all]
theorem sign_eq {k : Nat} {a b : Sc} {S : Sto} : run T (k + 1) "_law_sign" [.d (rkS a), .d (rkS b)] S = .ok (.d (.int (cmpS a b))) S := by
  rw [u_law_sign]
  unfold b_law_sign cmpS
  simp (decide := true) only [EV, gt_rkS, lt_rkS]
  cases h1 : ltS a b with
  | true =>
    rw [ltS_asymm h1]
    simp (decide := true) only [EV, fnEnd, fin_d, take_all]
    rfl
  | false =>
    cases ltS b a <;> simp (decide := true) only [EV, fnEnd, fin_d, take_all] <;> rfl
theorem dstr_ok {i : Int} (h : -1000001000 ≤ i) (h2 : i ≤ 1000001000) : ∃ x : Str, dStr (.int i) = some (.str x) ∧ x.length ≤ 100 := by
  have hl : i.natAbs.log2 < 31 := by
    by_cases hz : i.natAbs = 0
    · rw [hz]; decide
    · exact (Nat.log2_lt hz).mpr (by omega)
  refine ⟨Str.ofString (toString i), if_pos (by omega), ?_⟩
  rw [PySem.ofString_length]
  exact Nat.le_trans (PySem.int_text_length_le (by decide) hl) (by decide)
theorem sat_near {k t : Nat} {s : Sc} {S : Sto} (h : Tp S t) (hs : ScOk s) : Gen t S (run T (k + 5) "_law_scalar_near" [.o t, .d s.d] S) fun v => ∃ s : Sc, v = .d s.d ∧ ScOk s := by
  rw [u_law_scalar_near]
  refine Gen.end ?_
  unfold b_law_scalar_near
  simp (decide := true) only [EV]
  refine Gen.then (Kp.refl h) (sat_draw h (by decide)) fun v S1 ⟨r, e, hr0, hr1⟩ hk => ?_
  subst e
  have last : ∀ (w : Str) (S1 : Sto), w.length ≤ 100 → Kp t S S1 → ((run T (k + 4) "_law_pick" [.o t, .d (.list [.tuple [.str "null"], .tuple [.str "false"], .tuple [.str "true"], .tuple [.str "text", .str w], .tuple [.str "number", .int 0], .tuple [.str "text", .str ""]])] S1).bind fun v S1 => R.ok (Fl.rt v) S1).Sat fun fl S' => ∃ d, fl = Fl.rt (Vl.d d) ∧ (∃ s : Sc, Vl.d d = Vl.d s.d ∧ ScOk s) ∧ Kp t S S' := fun w S1 hw hk => by
    refine Gen.then hk (sat_pickL hk.tp (by show 0 < 6; decide) (by show 6 < 1073741824; decide)) fun v S2 ⟨d, e, hd⟩ hk => ?_
    subst e
    simp only [List.mem_cons, List.mem_nil_iff, or_false] at hd
    rcases hd with rfl | rfl | rfl | rfl | rfl | rfl
    · exact ⟨_, rfl, ⟨.nul, rfl, trivial⟩, hk⟩
    · exact ⟨_, rfl, ⟨.fls, rfl, trivial⟩, hk⟩
    · exact ⟨_, rfl, ⟨.tru, rfl, trivial⟩, hk⟩
    · exact ⟨_, rfl, ⟨.txt w, rfl, hw⟩, hk⟩
    · exact ⟨_, rfl, ⟨.num 0, rfl, by constructor <;> decide⟩, hk⟩
    · exact ⟨_, rfl, ⟨.txt "", rfl, by show (Str.ofString "").length ≤ 100; decide⟩, hk⟩
  have scal : ∀ (S1 : Sto), Kp t S S1 → ((run T (k + 4) "_law_scalar" [.o t] S1).bind fun v S1 => R.ok (Fl.rt v) S1).Sat fun fl S' => ∃ d, fl = Fl.rt (Vl.d d) ∧ (∃ s : Sc, Vl.d d = Vl.d s.d ∧ ScOk s) ∧ Kp t S S' := fun S1 hk => by
    refine Gen.then hk (sat_scalar hk.tp) fun v S2 ⟨s, e, hs⟩ hk => ?_
    subst e
    exact ⟨_, rfl, ⟨s, rfl, hs⟩, hk⟩
  have h3 : r = 0 ∨ r = 1 ∨ r = 2 ∨ r = 3 := by omega
  cases s with
  | num i =>
    have hi : -1000001000 ≤ i ∧ i ≤ 1000001000 := hs
    rcases h3 with rfl | rfl | rfl | rfl
    · simp (decide := true) only [EV, Sc.d]
      exact ⟨_, rfl, ⟨.num (-i), rfl, by constructor <;> omega⟩, hk⟩
    · simp (decide := true) only [EV, Sc.d]
      refine Gen.then hk (sat_pickL hk.tp (by decide) (by decide)) fun v S2 ⟨d, e, hd⟩ hk => ?_
      subst e
      have hm : ∃ m : Int, d = .int m := by
        simp only [List.mem_cons, List.mem_nil_iff, or_false] at hd
        rcases hd with rfl | rfl <;> exact ⟨_, rfl⟩
      obtain ⟨m, rfl⟩ := hm
      simp (decide := true) only [EV]
      exact ⟨_, rfl, ⟨.num _, rfl, by constructor <;> (split <;> split <;> omega)⟩, hk⟩
    · obtain ⟨x, ex, hx⟩ := dstr_ok hi.1 hi.2
      simp (decide := true) only [EV, Sc.d, ex]
      exact ⟨_, rfl, ⟨.txt x, rfl, hx⟩, hk⟩
    · simp (decide := true) only [EV, Sc.d]
      exact scal S1 hk
  | txt x =>
    have hx : x.length ≤ 100 := hs
    rcases h3 with rfl | rfl | rfl | rfl
    · simp (decide := true) only [EV, Sc.d, l_sz (Nat.le_trans hx (by decide))]
      refine Gen.then hk (sat_draw hk.tp (by omega)) fun v S2 ⟨at', e, _, _⟩ hk => ?_
      subst e
      simp (decide := true) only [EV]
      refine Sat_slS (by omega) fun y hy _ => ?_
      refine Gen.then hk (sat_any_sign hk.tp) fun v S3 ⟨c, e, _⟩ hk => ?_
      subst e
      simp (decide := true) only [EV]
      refine Sat_addS (by rw [len1]; omega) fun u hu _ => ?_
      rw [len1] at hu
      refine Sat_slS (by omega) fun y2 hy2 _ => ?_
      simp (decide := true) only [EV]
      refine Sat_addS (by omega) fun u2 hu2 _ => ?_
      refine Sat_slS' (by omega) fun y3 hy3 _ => ?_
      rw [cut_to (by decide), List.length_take] at hy3
      simp (decide := true) only [EV]
      exact ⟨_, rfl, ⟨.txt y3, rfl, by show y3.length ≤ 100; rw [hy3]; exact Nat.le_trans (Nat.min_le_left _ _) (by decide)⟩, hk⟩
    · simp (decide := true) only [EV, Sc.d, l_sz (Nat.le_trans hx (by decide))]
      refine Gen.then hk (sat_draw hk.tp (by omega)) fun v S2 ⟨at', e, _, _⟩ hk => ?_
      subst e
      simp (decide := true) only [EV]
      refine Sat_slS (by omega) fun y hy _ => ?_
      refine Gen.then hk (sat_any_sign hk.tp) fun v S3 ⟨c, e, _⟩ hk => ?_
      subst e
      simp (decide := true) only [EV]
      refine Sat_addS (by rw [len1]; omega) fun u hu _ => ?_
      rw [len1] at hu
      refine Sat_slS (by omega) fun y2 hy2 _ => ?_
      simp (decide := true) only [EV]
      refine Sat_addS (by omega) fun u2 hu2 _ => ?_
      refine Sat_slS' (by omega) fun y3 hy3 _ => ?_
      rw [cut_to (by decide), List.length_take] at hy3
      simp (decide := true) only [EV]
      exact ⟨_, rfl, ⟨.txt y3, rfl, by show y3.length ≤ 100; rw [hy3]; exact Nat.le_trans (Nat.min_le_left _ _) (by decide)⟩, hk⟩
    · simp (decide := true) only [EV, Sc.d, l_sz (Nat.le_trans hx (by decide))]
      refine Sat_slS (by omega) fun y hy _ => ?_
      simp (decide := true) only [EV]
      exact ⟨_, rfl, ⟨.txt y, rfl, by show y.length ≤ 100; omega⟩, hk⟩
    · simp (decide := true) only [EV, Sc.d]
      exact scal S1 hk
  | nul =>
    rcases h3 with rfl | rfl | rfl | rfl <;> simp (decide := true) only [EV, Sc.d]
    · exact last "null" S1 (by decide) hk
    · exact last "null" S1 (by decide) hk
    · exact last "null" S1 (by decide) hk
    · exact scal S1 hk
  | fls =>
    rcases h3 with rfl | rfl | rfl | rfl <;> simp (decide := true) only [EV, Sc.d]
    · exact last "false" S1 (by decide) hk
    · exact last "false" S1 (by decide) hk
    · exact last "false" S1 (by decide) hk
    · exact scal S1 hk
  | tru =>
    rcases h3 with rfl | rfl | rfl | rfl <;> simp (decide := true) only [EV, Sc.d]
    · exact last "true" S1 (by decide) hk
    · exact last "true" S1 (by decide) hk
    · exact last "true" S1 (by decide) hk
    · exact scal S1 hk
theorem law_true (ns : List Int) (hl : ns.length ≤ 63) : run T 20 "law" [.k (ns.map .int)] [] = .ok (.d (.bool true)) [] := by
  refine R.Sat.eq ?_
  rw [u_law (k := 19)]
  obtain ⟨S0, e, htp, hl0⟩ := tape_ex (k := 18) ns
  rw [Sat_end]
  unfold b_law
  simp (decide := true) only [EV, e]
  refine Gen.then (t := 0) (Kp.refl htp) (sat_scalar htp) fun v S1 ⟨s0, e, hs0⟩ hk => ?_
  subst e
  refine Gen.then hk (sat_scalar hk.tp) fun v S2 ⟨s1, e, hs1⟩ hk => ?_
  subst e
  have hl1 : S2.length = 1 := hk.len.trans hl0
  simp (decide := true) only [EV, hl1]
  rw [rng_map]
  refine Sat_forC (fun rest Γ S' => ∃ (xs : List Sc) (S1 : Sto) (a b c d : Option Vl), S' = S1 ++ [.lst (xs.map Sc.d)] ∧ Kp 0 S0 S1 ∧ Γ = [some (.k (ns.map .int)), some (.o 0), some (.o 1), a, b, c, d] ∧ xs.length + rest.length = 6 ∧ 0 < xs.length ∧ ∀ x ∈ xs, ScOk x)
    ⟨[s0, s1], S2, _, _, _, _, rfl, hk, rfl, rfl, Nat.succ_pos 1, fun x hx => ?_⟩ ?_ ?_
  · simp only [List.mem_cons, List.mem_nil_iff, or_false] at hx
    rcases hx with rfl | rfl
    · exact hs0
    · exact hs1
  · rintro j rest Γ S' hj ⟨xs, S3, a, b, c, d, rfl, hk, rfl, hxl, hx0, hxs⟩
    rw [List.length_cons] at hxl
    refine ⟨_, rfl, ?_⟩
    have hown : ∀ {S3 : Sto}, Kp 0 S0 S3 → lstOf (S3 ++ [.lst (xs.map Sc.d)]) 1 = some (xs.map Sc.d) := fun hk => lst_own (hk.len.trans hl0)
    simp (decide := true) only [EV, hown hk]
    refine Gen.thenL hk (sat_pickO hk.tp.app (by decide) (hown hk) (by rw [List.length_map]; exact hx0) (by rw [List.length_map]; omega)) fun v S4 ⟨d, e, hd⟩ hk => ?_
    subst e
    obtain ⟨s, hs, rfl⟩ := List.mem_map.mp hd
    refine Gen.thenL hk (sat_near hk.tp.app (hxs s hs)) fun v S5 ⟨s2, e, hs2⟩ hk => ?_
    subst e
    simp (decide := true) only [EV, app_own (show S5.length = 1 from hk.len.trans hl0) (show (xs.map Sc.d).length < SZ by rw [List.length_map]; show _ < 16777216; omega)]
    refine ⟨xs ++ [s2], S5, _, _, _, _, by rw [List.map_append]; rfl, hk, rfl, by rw [List.length_append, List.length_singleton]; omega, by rw [List.length_append]; omega, fun z hz => ?_⟩
    rcases List.mem_append.mp hz with hz | hz
    · exact hxs z hz
    · rw [List.mem_singleton.mp hz]; exact hs2
  · rintro Γ S' ⟨xs, S3, a, b, c, d, rfl, hk, rfl, hxl, hx0, hxs⟩
    have hxl : xs.length = 6 := by simpa using hxl
    have ho : lstOf (S3 ++ [.lst (xs.map Sc.d)]) 1 = some (xs.map Sc.d) := lst_own (hk.len.trans hl0)
    generalize S3 ++ [Ob.lst (xs.map Sc.d)] = SS at ho
    have sI : ∀ (n : Int) (S : Sto), run T 19 "_law_same" [.d (.int n), .d (.int n)] S = .ok (.d (.bool true)) S := fun n S => same_self 0 (k := 18) (.int n) (Nat.le_refl 0)
    simp (decide := true) only [EV, l_srcO ho]
    refine Sat_forObC (all := xs) Sc.d (fun _ Γ S' => S' = SS ∧ ∃ a b c d, Γ = [some (.k (ns.map .int)), some (.o 0), some (.o 1), a, b, c, d]) (by omega) ⟨rfl, _, _, _, _, rfl⟩ (by rintro rest Γ S ⟨rfl, _⟩; exact ho) ?_ ?_
    · rintro p rest Γ S hp ⟨rfl, a, b, c, d, rfl⟩
      refine ⟨_, rfl, ?_⟩
      refine Sat_end_id ?_
      simp (decide := true) only [EV, l_srcO ho]
      refine Sat_forObC (all := xs) Sc.d (fun _ Γ S' => S' = S ∧ ∃ c d, Γ = [some (.k (ns.map .int)), some (.o 0), some (.o 1), a, some (.d p.d), c, d]) (by omega) ⟨rfl, _, _, rfl⟩ (by rintro rest Γ S ⟨rfl, _⟩; exact ho) ?_ ?_
      · rintro q rest2 Γ S' hq ⟨rfl, c, d, rfl⟩
        refine ⟨_, rfl, ?_⟩
        simp (decide := true) only [EV, law_worth_eq (k := 18) (hxs p hp), law_worth_eq (k := 18) (hxs q hq), sign_eq (k := 18), compare_eq (k := 17) (hxs p hp) (hxs q hq), sI]
        exact ⟨rfl, _, _, rfl⟩
      · rintro Γ S' ⟨rfl, c, d, rfl⟩
        exact ⟨rfl, _, _, _, _, rfl⟩
    · rintro Γ S ⟨rfl, a, b, c, d, rfl⟩
      simp (decide := true) only [EV, fin_d]
      exact ⟨rfl, List.take_zero⟩
end L2.Pv

set_option Elab.async false
set_option linter.all false
set_option maxRecDepth 100000
namespace L2.Pv
open PySem PySem.Spec PyProof.Rows L2
theorem look_mem {α : Type} {x : Str} {a : α} : ∀ {l : List (Str × α)}, l.lookup x = some a → (x, a) ∈ l
  | [], h => by simp at h
  | (y, b) :: r, h => by
    rw [List.lookup_cons] at h
    split at h
    · rename_i e
      have e2 : x = y := by simpa using e
      cases h
      rw [e2]
      exact List.mem_cons_self
    · exact List.mem_cons_of_mem _ (look_mem h)
theorem o_compare_ranks : EntOk G e_compare_ranks := ⟨fun call => by kernel_rfl, ⟨rfl, rfl, rfl, by decide +kernel, rfl, by decide +kernel, by decide +kernel⟩⟩
theorem o_scalar_rank : EntOk G e_scalar_rank := ⟨fun call => by kernel_rfl, ⟨rfl, rfl, rfl, by decide +kernel, rfl, by decide +kernel, by decide +kernel⟩⟩
theorem o_compare_scalars : EntOk G e_compare_scalars := ⟨fun call => by kernel_rfl, ⟨rfl, rfl, rfl, by decide +kernel, rfl, by decide +kernel, by decide +kernel⟩⟩
theorem o_law_tape : EntOk G e_law_tape := ⟨fun call => by kernel_rfl, ⟨rfl, rfl, rfl, by decide +kernel, rfl, by decide +kernel, by decide +kernel⟩⟩
theorem o_law_draw : EntOk G e_law_draw := ⟨fun call => by kernel_rfl, ⟨rfl, rfl, rfl, by decide +kernel, rfl, by decide +kernel, by decide +kernel⟩⟩
theorem o_law_pick : EntOk G e_law_pick := ⟨fun call => by kernel_rfl, ⟨rfl, rfl, rfl, by decide +kernel, rfl, by decide +kernel, by decide +kernel⟩⟩
theorem o_law_same : EntOk G e_law_same := ⟨fun call => by kernel_rfl, ⟨rfl, rfl, rfl, by decide +kernel, rfl, by decide +kernel, by decide +kernel⟩⟩
theorem o_law_any_sign : EntOk G e_law_any_sign := ⟨fun call => by kernel_rfl, ⟨rfl, rfl, rfl, by decide +kernel, rfl, by decide +kernel, by decide +kernel⟩⟩
theorem o_law_tight_text : EntOk G e_law_tight_text := ⟨fun call => by kernel_rfl, ⟨rfl, rfl, rfl, by decide +kernel, rfl, by decide +kernel, by decide +kernel⟩⟩
theorem o_law_scalar : EntOk G e_law_scalar := ⟨fun call => by kernel_rfl, ⟨rfl, rfl, rfl, by decide +kernel, rfl, by decide +kernel, by decide +kernel⟩⟩
theorem o_law_worth : EntOk G e_law_worth := ⟨fun call => by kernel_rfl, ⟨rfl, rfl, rfl, by decide +kernel, rfl, by decide +kernel, by decide +kernel⟩⟩
theorem o_law_sign : EntOk G e_law_sign := ⟨fun call => by kernel_rfl, ⟨rfl, rfl, rfl, by decide +kernel, rfl, by decide +kernel, by decide +kernel⟩⟩
theorem o_law_scalar_near : EntOk G e_law_scalar_near := ⟨fun call => by kernel_rfl, ⟨rfl, rfl, rfl, by decide +kernel, rfl, by decide +kernel, by decide +kernel⟩⟩
theorem o_law : EntOk G e_law := ⟨fun call => by kernel_rfl, ⟨rfl, rfl, rfl, by decide +kernel, rfl, by decide +kernel, by decide +kernel⟩⟩
theorem tab_mk {K : PySem.W.Frag} {h : Heap} {mg : Str → Option Value} (X : K.In h) (G0 : h.Ns mainGlobals mg)
    {f0 f1 f2 f3 f4 f5 f6 f7 f8 f9 f10 f11 f12 f13 : Addr}
    {od0 an0 od1 an1 od2 an2 od3 an3 od4 an4 od5 an5 od6 an6 od7 an7 od8 an8 od9 an9 od10 an10 od11 an11 od12 an12 od13 an13 : Option Addr}
    {sl0 sl1 sl2 sl3 sl4 sl5 sl6 sl7 sl8 sl9 sl10 sl11 sl12 sl13 : Array (Option Value)}
    {oc0 kV0 dc0 pm0 cd0 ct0 oc1 kV1 dc1 pm1 cd1 ct1 oc2 kV2 dc2 pm2 cd2 ct2 oc3 kV3 dc3 pm3 cd3 ct3 oc4 kV4 dc4 pm4 cd4 ct4 oc5 kV5 dc5 pm5 cd5 ct5 oc6 kV6 dc6 pm6 cd6 ct6 oc7 kV7 dc7 pm7 cd7 ct7 oc8 kV8 dc8 pm8 cd8 ct8 oc9 kV9 dc9 pm9 cd9 ct9 oc10 kV10 dc10 pm10 cd10 ct10 oc11 kV11 dc11 pm11 cd11 ct11 oc12 kV12 dc12 pm12 cd12 ct12 oc13 kV13 dc13 pm13 cd13 ct13 : Value}
    {qa0 : Addr} {qn0 : Nat} {qs0 : Array (Option Value)} {u0_0 : Tok} {u0_1 : Tok} {u0_2 : Tok}
    (a0 : PySem.W.nsIn K mainGlobals "compare_ranks" = some (some (.ref f0))) (l0 : K.lookup f0 = some ⟨oc0, od0, .func (PySem.W.fnOf "compare_ranks" "compare_ranks" (defArgs (topS 1)) (defBody (topS 1)) (defScope (topS 1)) .none kV0 dc0 pm0 an0 cd0 ct0), sl0⟩) (c0 : PySem.W.codeIn K cd0 "compare_ranks" = true) (k0 : PySem.W.keepIn K (.ref f0) = true)
    (a1 : PySem.W.nsIn K mainGlobals "scalar_rank" = some (some (.ref f1))) (l1 : K.lookup f1 = some ⟨oc1, od1, .func (PySem.W.fnOf "scalar_rank" "scalar_rank" (defArgs (topS 4)) (defBody (topS 4)) (defScope (topS 4)) .none kV1 dc1 pm1 an1 cd1 ct1), sl1⟩) (c1 : PySem.W.codeIn K cd1 "scalar_rank" = true) (k1 : PySem.W.keepIn K (.ref f1) = true)
    (a2 : PySem.W.nsIn K mainGlobals "compare_scalars" = some (some (.ref f2))) (l2 : K.lookup f2 = some ⟨oc2, od2, .func (PySem.W.fnOf "compare_scalars" "compare_scalars" (defArgs (topS 5)) (defBody (topS 5)) (defScope (topS 5)) .none kV2 dc2 pm2 an2 cd2 ct2), sl2⟩) (c2 : PySem.W.codeIn K cd2 "compare_scalars" = true) (k2 : PySem.W.keepIn K (.ref f2) = true)
    (a3 : PySem.W.nsIn K mainGlobals "_law_tape" = some (some (.ref f3))) (l3 : K.lookup f3 = some ⟨oc3, od3, .func (PySem.W.fnOf "_law_tape" "_law_tape" (defArgs (topS 7)) (defBody (topS 7)) (defScope (topS 7)) .none kV3 dc3 pm3 an3 cd3 ct3), sl3⟩) (c3 : PySem.W.codeIn K cd3 "_law_tape" = true) (k3 : PySem.W.keepIn K (.ref f3) = true)
    (a4 : PySem.W.nsIn K mainGlobals "_law_draw" = some (some (.ref f4))) (l4 : K.lookup f4 = some ⟨oc4, od4, .func (PySem.W.fnOf "_law_draw" "_law_draw" (defArgs (topS 8)) (defBody (topS 8)) (defScope (topS 8)) .none kV4 dc4 pm4 an4 cd4 ct4), sl4⟩) (c4 : PySem.W.codeIn K cd4 "_law_draw" = true) (k4 : PySem.W.keepIn K (.ref f4) = true)
    (a5 : PySem.W.nsIn K mainGlobals "_law_pick" = some (some (.ref f5))) (l5 : K.lookup f5 = some ⟨oc5, od5, .func (PySem.W.fnOf "_law_pick" "_law_pick" (defArgs (topS 9)) (defBody (topS 9)) (defScope (topS 9)) .none kV5 dc5 pm5 an5 cd5 ct5), sl5⟩) (c5 : PySem.W.codeIn K cd5 "_law_pick" = true) (k5 : PySem.W.keepIn K (.ref f5) = true)
    (a6 : PySem.W.nsIn K mainGlobals "_law_same" = some (some (.ref f6))) (l6 : K.lookup f6 = some ⟨oc6, od6, .func (PySem.W.fnOf "_law_same" "_law_same" (defArgs (topS 10)) (defBody (topS 10)) (defScope (topS 10)) .none kV6 dc6 pm6 an6 cd6 ct6), sl6⟩) (c6 : PySem.W.codeIn K cd6 "_law_same" = true) (k6 : PySem.W.keepIn K (.ref f6) = true)
    (a7 : PySem.W.nsIn K mainGlobals "_law_any_sign" = some (some (.ref f7))) (l7 : K.lookup f7 = some ⟨oc7, od7, .func (PySem.W.fnOf "_law_any_sign" "_law_any_sign" (defArgs (topS 11)) (defBody (topS 11)) (defScope (topS 11)) .none kV7 dc7 pm7 an7 cd7 ct7), sl7⟩) (c7 : PySem.W.codeIn K cd7 "_law_any_sign" = true) (k7 : PySem.W.keepIn K (.ref f7) = true)
    (a8 : PySem.W.nsIn K mainGlobals "_law_tight_text" = some (some (.ref f8))) (l8 : K.lookup f8 = some ⟨oc8, od8, .func (PySem.W.fnOf "_law_tight_text" "_law_tight_text" (defArgs (topS 12)) (defBody (topS 12)) (defScope (topS 12)) .none kV8 dc8 pm8 an8 cd8 ct8), sl8⟩) (c8 : PySem.W.codeIn K cd8 "_law_tight_text" = true) (k8 : PySem.W.keepIn K (.ref f8) = true)
    (a9 : PySem.W.nsIn K mainGlobals "_law_scalar" = some (some (.ref f9))) (l9 : K.lookup f9 = some ⟨oc9, od9, .func (PySem.W.fnOf "_law_scalar" "_law_scalar" (defArgs (topS 13)) (defBody (topS 13)) (defScope (topS 13)) .none kV9 dc9 pm9 an9 cd9 ct9), sl9⟩) (c9 : PySem.W.codeIn K cd9 "_law_scalar" = true) (k9 : PySem.W.keepIn K (.ref f9) = true)
    (a10 : PySem.W.nsIn K mainGlobals "_law_worth" = some (some (.ref f10))) (l10 : K.lookup f10 = some ⟨oc10, od10, .func (PySem.W.fnOf "_law_worth" "_law_worth" (defArgs (topS 14)) (defBody (topS 14)) (defScope (topS 14)) .none kV10 dc10 pm10 an10 cd10 ct10), sl10⟩) (c10 : PySem.W.codeIn K cd10 "_law_worth" = true) (k10 : PySem.W.keepIn K (.ref f10) = true)
    (a11 : PySem.W.nsIn K mainGlobals "_law_sign" = some (some (.ref f11))) (l11 : K.lookup f11 = some ⟨oc11, od11, .func (PySem.W.fnOf "_law_sign" "_law_sign" (defArgs (topS 15)) (defBody (topS 15)) (defScope (topS 15)) .none kV11 dc11 pm11 an11 cd11 ct11), sl11⟩) (c11 : PySem.W.codeIn K cd11 "_law_sign" = true) (k11 : PySem.W.keepIn K (.ref f11) = true)
    (a12 : PySem.W.nsIn K mainGlobals "_law_scalar_near" = some (some (.ref f12))) (l12 : K.lookup f12 = some ⟨oc12, od12, .func (PySem.W.fnOf "_law_scalar_near" "_law_scalar_near" (defArgs (topS 16)) (defBody (topS 16)) (defScope (topS 16)) .none kV12 dc12 pm12 an12 cd12 ct12), sl12⟩) (c12 : PySem.W.codeIn K cd12 "_law_scalar_near" = true) (k12 : PySem.W.keepIn K (.ref f12) = true)
    (a13 : PySem.W.nsIn K mainGlobals "law" = some (some (.ref f13))) (l13 : K.lookup f13 = some ⟨oc13, od13, .func (PySem.W.fnOf "law" "law" (defArgs (topS 17)) (defBody (topS 17)) (defScope (topS 17)) .none kV13 dc13 pm13 an13 cd13 ct13), sl13⟩) (c13 : PySem.W.codeIn K cd13 "law" = true) (k13 : PySem.W.keepIn K (.ref f13) = true)
    (q0 : PySem.W.nsIn K mainGlobals "PLAIN_WORDS" = some (some (.ref qa0))) (ql0 : K.lookup qa0 = some ⟨.type "tuple", none, .seq #[.str "null" u0_0, .str "false" u0_1, .str "true" u0_2] qn0, qs0⟩)
    (z0 : PySem.W.nsIn K mainGlobals "isinstance" = some none)
    (z1 : PySem.W.nsIn K mainGlobals "tuple" = some none)
    (z2 : PySem.W.nsIn K mainGlobals "str" = some none)
    (z3 : PySem.W.nsIn K mainGlobals "range" = some none)
    (z4 : PySem.W.nsIn K mainGlobals "list" = some none)
    (z5 : PySem.W.nsIn K mainGlobals "max" = some none)
    (z6 : PySem.W.nsIn K mainGlobals "int" = some none)
    (z7 : PySem.W.nsIn K mainGlobals "bool" = some none)
    (z8 : PySem.W.nsIn K mainGlobals "len" = some none)
    (z9 : PySem.W.nsIn K mainGlobals "abs" = some none)
    (z10 : PySem.W.nsIn K mainGlobals "min" = some none) : TabOk K mg G T where
  st := by
    intro e he
    simp only [T, List.mem_cons, List.mem_nil_iff, or_false] at he
    rcases he with rfl | rfl | rfl | rfl | rfl | rfl | rfl | rfl | rfl | rfl | rfl | rfl | rfl | rfl
    · exact o_compare_ranks
    · exact o_scalar_rank
    · exact o_compare_scalars
    · exact o_law_tape
    · exact o_law_draw
    · exact o_law_pick
    · exact o_law_same
    · exact o_law_any_sign
    · exact o_law_tight_text
    · exact o_law_scalar
    · exact o_law_worth
    · exact o_law_sign
    · exact o_law_scalar_near
    · exact o_law
  fn := by
    intro e he
    simp only [T, List.mem_cons, List.mem_nil_iff, or_false] at he
    rcases he with rfl | rfl | rfl | rfl | rfl | rfl | rfl | rfl | rfl | rfl | rfl | rfl | rfl | rfl
    · exact ⟨f0, _, fun_mk (st := topS 1) l0 c0 k0, PySem.W.mg_of X G0 a0, (fun_mk (st := topS 1) l0 c0 k0).binds (ps := ["first", "second"]) fun _ _ _ _ _ _ us hl => match us, hl with | [_, _], _ => rfl⟩
    · exact ⟨f1, _, fun_mk (st := topS 4) l1 c1 k1, PySem.W.mg_of X G0 a1, (fun_mk (st := topS 4) l1 c1 k1).binds (ps := ["scalar"]) fun _ _ _ _ _ _ us hl => match us, hl with | [_], _ => rfl⟩
    · exact ⟨f2, _, fun_mk (st := topS 5) l2 c2 k2, PySem.W.mg_of X G0 a2, (fun_mk (st := topS 5) l2 c2 k2).binds (ps := ["first", "second"]) fun _ _ _ _ _ _ us hl => match us, hl with | [_, _], _ => rfl⟩
    · exact ⟨f3, _, fun_mk (st := topS 7) l3 c3 k3, PySem.W.mg_of X G0 a3, (fun_mk (st := topS 7) l3 c3 k3).binds (ps := ["script"]) fun _ _ _ _ _ _ us hl => match us, hl with | [_], _ => rfl⟩
    · exact ⟨f4, _, fun_mk (st := topS 8) l4 c4 k4, PySem.W.mg_of X G0 a4, (fun_mk (st := topS 8) l4 c4 k4).binds (ps := ["tape", "many"]) fun _ _ _ _ _ _ us hl => match us, hl with | [_, _], _ => rfl⟩
    · exact ⟨f5, _, fun_mk (st := topS 9) l5 c5 k5, PySem.W.mg_of X G0 a5, (fun_mk (st := topS 9) l5 c5 k5).binds (ps := ["tape", "row"]) fun _ _ _ _ _ _ us hl => match us, hl with | [_, _], _ => rfl⟩
    · exact ⟨f6, _, fun_mk (st := topS 10) l6 c6 k6, PySem.W.mg_of X G0 a6, (fun_mk (st := topS 10) l6 c6 k6).binds (ps := ["actual", "expected"]) fun _ _ _ _ _ _ us hl => match us, hl with | [_, _], _ => rfl⟩
    · exact ⟨f7, _, fun_mk (st := topS 11) l7 c7 k7, PySem.W.mg_of X G0 a7, (fun_mk (st := topS 11) l7 c7 k7).binds (ps := ["tape"]) fun _ _ _ _ _ _ us hl => match us, hl with | [_], _ => rfl⟩
    · exact ⟨f8, _, fun_mk (st := topS 12) l8 c8 k8, PySem.W.mg_of X G0 a8, (fun_mk (st := topS 12) l8 c8 k8).binds (ps := ["tape", "many"]) fun _ _ _ _ _ _ us hl => match us, hl with | [_, _], _ => rfl⟩
    · exact ⟨f9, _, fun_mk (st := topS 13) l9 c9 k9, PySem.W.mg_of X G0 a9, (fun_mk (st := topS 13) l9 c9 k9).binds (ps := ["tape"]) fun _ _ _ _ _ _ us hl => match us, hl with | [_], _ => rfl⟩
    · exact ⟨f10, _, fun_mk (st := topS 14) l10 c10 k10, PySem.W.mg_of X G0 a10, (fun_mk (st := topS 14) l10 c10 k10).binds (ps := ["content"]) fun _ _ _ _ _ _ us hl => match us, hl with | [_], _ => rfl⟩
    · exact ⟨f11, _, fun_mk (st := topS 15) l11 c11 k11, PySem.W.mg_of X G0 a11, (fun_mk (st := topS 15) l11 c11 k11).binds (ps := ["first", "second"]) fun _ _ _ _ _ _ us hl => match us, hl with | [_, _], _ => rfl⟩
    · exact ⟨f12, _, fun_mk (st := topS 16) l12 c12 k12, PySem.W.mg_of X G0 a12, (fun_mk (st := topS 16) l12 c12 k12).binds (ps := ["tape", "scalar"]) fun _ _ _ _ _ _ us hl => match us, hl with | [_, _], _ => rfl⟩
    · exact ⟨f13, _, fun_mk (st := topS 17) l13 c13 k13, PySem.W.mg_of X G0 a13, (fun_mk (st := topS 17) l13 c13 k13).binds (ps := ["script"]) fun _ _ _ _ _ _ us hl => match us, hl with | [_], _ => rfl⟩
  gl := fun x b e => by
    have e2 := look_mem e
    simp only [G, List.mem_cons, List.mem_nil_iff, or_false, Prod.mk.injEq, reduceCtorEq, and_false, false_or, GE.blt.injEq] at e2
    rcases e2 with ⟨rfl, rfl⟩ | ⟨rfl, rfl⟩ | ⟨rfl, rfl⟩ | ⟨rfl, rfl⟩ | ⟨rfl, rfl⟩ | ⟨rfl, rfl⟩ | ⟨rfl, rfl⟩ | ⟨rfl, rfl⟩ | ⟨rfl, rfl⟩ | ⟨rfl, rfl⟩ | ⟨rfl, rfl⟩
    · exact ⟨PySem.W.mg_none_of X G0 z0, rfl⟩
    · exact ⟨PySem.W.mg_none_of X G0 z1, rfl⟩
    · exact ⟨PySem.W.mg_none_of X G0 z2, rfl⟩
    · exact ⟨PySem.W.mg_none_of X G0 z3, rfl⟩
    · exact ⟨PySem.W.mg_none_of X G0 z4, rfl⟩
    · exact ⟨PySem.W.mg_none_of X G0 z5, rfl⟩
    · exact ⟨PySem.W.mg_none_of X G0 z6, rfl⟩
    · exact ⟨PySem.W.mg_none_of X G0 z7, rfl⟩
    · exact ⟨PySem.W.mg_none_of X G0 z8, rfl⟩
    · exact ⟨PySem.W.mg_none_of X G0 z9, rfl⟩
    · exact ⟨PySem.W.mg_none_of X G0 z10, rfl⟩
  gc := fun x d e => by
    have e2 := look_mem e
    simp only [G, List.mem_cons, List.mem_nil_iff, or_false, Prod.mk.injEq, reduceCtorEq, and_false, false_or, GE.con.injEq] at e2
    rcases e2 with ⟨rfl, rfl⟩
    · exact ⟨_, .ref qa0, PySem.W.mg_of X G0 q0, rfl, .tup (xs := [.str "null", .str "false", .str "true"]) (.inr ⟨_, _, _, ql0, rfl, rfl, rfl, (show 3 ≤ PySem.sizeLine from by decide), .cons ⟨_, rfl⟩ (.cons ⟨_, rfl⟩ (.cons ⟨_, rfl⟩ (.nil)))⟩) (.cons (.str _ (strOk_of _)) (.cons (.str _ (strOk_of _)) (.cons (.str _ (strOk_of _)) (.nil))))⟩
  gf := fun x n e => by
    have e2 := look_mem e
    simp only [G, List.mem_cons, List.mem_nil_iff, or_false, Prod.mk.injEq, reduceCtorEq, and_false, false_or, GE.fn.injEq] at e2
    rcases e2 with ⟨rfl, rfl⟩ | ⟨rfl, rfl⟩ | ⟨rfl, rfl⟩ | ⟨rfl, rfl⟩ | ⟨rfl, rfl⟩ | ⟨rfl, rfl⟩ | ⟨rfl, rfl⟩ | ⟨rfl, rfl⟩ | ⟨rfl, rfl⟩ | ⟨rfl, rfl⟩ | ⟨rfl, rfl⟩ | ⟨rfl, rfl⟩ | ⟨rfl, rfl⟩ | ⟨rfl, rfl⟩
    · exact ⟨e_compare_ranks, by kernel_rfl, rfl⟩
    · exact ⟨e_scalar_rank, by kernel_rfl, rfl⟩
    · exact ⟨e_compare_scalars, by kernel_rfl, rfl⟩
    · exact ⟨e_law_tape, by kernel_rfl, rfl⟩
    · exact ⟨e_law_draw, by kernel_rfl, rfl⟩
    · exact ⟨e_law_pick, by kernel_rfl, rfl⟩
    · exact ⟨e_law_same, by kernel_rfl, rfl⟩
    · exact ⟨e_law_any_sign, by kernel_rfl, rfl⟩
    · exact ⟨e_law_tight_text, by kernel_rfl, rfl⟩
    · exact ⟨e_law_scalar, by kernel_rfl, rfl⟩
    · exact ⟨e_law_worth, by kernel_rfl, rfl⟩
    · exact ⟨e_law_sign, by kernel_rfl, rfl⟩
    · exact ⟨e_law_scalar_near, by kernel_rfl, rfl⟩
    · exact ⟨e_law, by kernel_rfl, rfl⟩
theorem all_mk {l : PySem.W.OpenLaw} {w : World} {K : PySem.W.Frag} {h : Heap} {mg : Str → Option Value} {fa : Addr} (X : K.In h) (G0 : h.Ns mainGlobals mg) (hfa : mg "law" = some (.ref fa)) (tab : TabOk K mg G T) :
    ∃ fd : FuncData, (∀ (s : Shared) (v : Value), BindsTo s fd ⟨[v], []⟩ [("script", v)]) ∧ ∀ base : Heap, K.In base → base.Ns mainGlobals mg → FnOk l.prog w K mg base CX0 20 fa fd ["script"] (SpD K 1 (run T 20 "law")) := by
  have e : entAt T "law" = some e_law := by kernel_rfl
  obtain ⟨f, fd, h1, _, _, h4, _⟩ := fn_all (P := l.prog) (w := w) (base := h) tab 20 "law" e_law e
  rw [hfa] at h1
  cases h1
  obtain ⟨oc, od, kV, doc, pm, an, cdv, ct, osl, rfl, lk, hcd⟩ := h4.ex
  refine ⟨PySem.W.fnOf "law" "law" (defArgs (topS 17)) (defBody (topS 17)) (defScope (topS 17)) .none kV doc pm an cdv ct, fun s v => .of_eq rfl, fun base _ _ => ?_⟩
  obtain ⟨f2, fd2, g1, _, _, g4, g5⟩ := fn_all (P := l.prog) (w := w) (base := base) tab 20 "law" e_law e
  rw [hfa] at g1
  cases g1
  obtain ⟨oc2, od2, kV2, doc2, pm2, an2, cdv2, ct2, osl2, rfl, lk2, hcd2⟩ := g4.ex
  rw [lk] at lk2
  cases lk2
  exact g5
end L2.Pv
open PySem PySem.W PyProof.Rows
set_option maxHeartbeats 0 in
theorem PySem.Challenge.cw_hookcheck_k08_order_of_scalars_holds : PySem.Challenge.rw_hookcheck_k08_order_of_scalars.Holds := by
  w_on; o_law; k_head; (case hw => w_witness2)
  k_fill
  refine L2.walk_of (l := PySem.Challenge.rw_hookcheck_k08_order_of_scalars) (n := 63) (k := 20) (x := "script") (CX := fun _ => L2.CX0) (sp := fun w => L2.Pv.SpD _ 1 (L2.Pv.run L2.Pv.T 20 "law")) rfl (by decide) rfl ⟨rfl, by decide, by decide⟩ (fun w h Y => PySem.W.kIn_of Y) ?F (fun _ _ a ns hl _ hS => L2.Pv.law_sp hS (L2.Pv.law_true ns hl)) (fun _ _ _ _ _ h => h)
  case F =>
    intro w mg fa h KX G0 hmg
    refine' L2.Pv.all_mk KX G0 hmg (L2.Pv.tab_mk KX G0 ?a0 ?l0 ?c0 ?k0 ?a1 ?l1 ?c1 ?k1 ?a2 ?l2 ?c2 ?k2 ?a3 ?l3 ?c3 ?k3 ?a4 ?l4 ?c4 ?k4 ?a5 ?l5 ?c5 ?k5 ?a6 ?l6 ?c6 ?k6 ?a7 ?l7 ?c7 ?k7 ?a8 ?l8 ?c8 ?k8 ?a9 ?l9 ?c9 ?k9 ?a10 ?l10 ?c10 ?k10 ?a11 ?l11 ?c11 ?k11 ?a12 ?l12 ?c12 ?k12 ?a13 ?l13 ?c13 ?k13 ?q0 ?ql0 ?z0 ?z1 ?z2 ?z3 ?z4 ?z5 ?z6 ?z7 ?z8 ?z9 ?z10)
    (case a0 => k_is); (case l0 => k_is); (case c0 => k_is); (case k0 => k_is); (case a1 => k_is); (case l1 => k_is); (case c1 => k_is); (case k1 => k_is); (case a2 => k_is); (case l2 => k_is); (case c2 => k_is); (case k2 => k_is); (case a3 => k_is); (case l3 => k_is); (case c3 => k_is); (case k3 => k_is); (case a4 => k_is); (case l4 => k_is); (case c4 => k_is); (case k4 => k_is); (case a5 => k_is); (case l5 => k_is); (case c5 => k_is); (case k5 => k_is); (case a6 => k_is); (case l6 => k_is); (case c6 => k_is); (case k6 => k_is); (case a7 => k_is); (case l7 => k_is); (case c7 => k_is); (case k7 => k_is); (case a8 => k_is); (case l8 => k_is); (case c8 => k_is); (case k8 => k_is); (case a9 => k_is); (case l9 => k_is); (case c9 => k_is); (case k9 => k_is); (case a10 => k_is); (case l10 => k_is); (case c10 => k_is); (case k10 => k_is); (case a11 => k_is); (case l11 => k_is); (case c11 => k_is); (case k11 => k_is); (case a12 => k_is); (case l12 => k_is); (case c12 => k_is); (case k12 => k_is); (case a13 => k_is); (case l13 => k_is); (case c13 => k_is); (case k13 => k_is); (case q0 => k_is); (case ql0 => k_is); (case z0 => k_is); (case z1 => k_is); (case z2 => k_is); (case z3 => k_is); (case z4 => k_is); (case z5 => k_is); (case z6 => k_is); (case z7 => k_is); (case z8 => k_is); (case z9 => k_is); (case z10 => k_is)

