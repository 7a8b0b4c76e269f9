import PyProof.Rows.All
import Wide.All
import OpenK.AllK
import Wide.FinOn
import HandS.ForMost
import HandS.ForExc
import HandS.TryMany
import HandS.ExcInit
import HandS.ExcField
import HandS.Conv
import HandS.Zip
import HandS.SortInts
import HandS.Flow
import HandS.TupAny
import HandS.TupLen
import HandS.Deep
import HandS.TupLe
import HandS.TupMul
import HandS.Wide
import KE.KExcSuper
import HandS.IsInst
import HandS.Codes
import HandS.ExcIs
import HandS.DictComp
import HandS.Style
import HandS.TupSets
import PyProof.Rows.Range3
import KE.DataCmp
import HandS.Text
import HandS.RaiseMore
import KE.KExcIs
import PySem.Challenge.RW_trickbook_k01_first_faulty_token
set_option Elab.async false
set_option linter.all false
set_option maxRecDepth 100000
set_option maxHeartbeats 4000000
/-! The data layer over HandS: a canonical reading of an expression by a plain function on data. -/
namespace DL
open PySem PySem.Spec PyProof.Rows L2

abbrev D := PyData
inductive Rs (α : Type) where
  | ok (a : α)
  | er (c : Str) (fs : List (Str × D))
  | no
def Rs.bind {α β : Type} (x : Rs α) (f : α → Rs β) : Rs β := match x with
  | .ok a => f a
  | .er c fs => .er c fs
  | .no => .no
def Rs.map {α β : Type} (f : α → β) (x : Rs α) : Rs β := match x with
  | .ok a => .ok (f a)
  | .er c fs => .er c fs
  | .no => .no
@[simp] theorem Rs.bind_ok {α β : Type} (a : α) (f : α → Rs β) : (Rs.ok a).bind f = f a := Eq.trans (Eq.refl _) rfl
@[simp] theorem Rs.bind_er {α β : Type} (c : Str) (fs : List (Str × D)) (f : α → Rs β) : (Rs.er c fs).bind f = .er c fs := Eq.trans (Eq.refl _) rfl
@[simp] theorem Rs.bind_no {α β : Type} (f : α → Rs β) : (Rs.no : Rs α).bind f = .no := Eq.trans (Eq.refl _) rfl
@[simp] theorem Rs.map_ok {α β : Type} (a : α) (f : α → β) : (Rs.ok a).map f = .ok (f a) := Eq.trans (Eq.refl _) rfl
@[simp] theorem Rs.map_er {α β : Type} (c : Str) (fs : List (Str × D)) (f : α → β) : (Rs.er c fs).map f = .er c fs := Eq.trans (Eq.refl _) rfl
@[simp] theorem Rs.map_no {α β : Type} (f : α → β) : (Rs.no : Rs α).map f = .no := Eq.trans (Eq.refl _) rfl

abbrev Env := List (Option D)
inductive Out where
  | nx (γ : Env)
  | rt (d : D)
  | bk (γ : Env)
  | ct (γ : Env)
  | er (c : Str) (fs : List (Str × D)) (γ : Env)
  | no

/-! ### what a value stands for -/
def kD : Key → D
  | .inl i => .int i
  | .inr x => .str x
mutual
inductive Dn (K : PySem.W.Frag) (H : Hp) : V → D → Prop
  | non : Dn K H .non .none
  | bl (b : Bool) : Dn K H (.bl b) (.bool b)
  | int (i : Int) : Dn K H (.int i) (.int i)
  | str (x : Str) : Dn K H (.str x) (.str x)
  | lst {a : Addr} {xs : List V} {ds : List D} : Rd H a (.lst xs) → DnAll K H xs ds → Dn K H (.ref a) (.list ds)
  | tup {a : Addr} {xs : List V} {ds : List D} : H a = some (.tup xs) → DnAll K H xs ds → Dn K H (.ref a) (.tuple ds)
  | dic {a : Addr} {kvs : List (Key × V)} {es : List (D × D)} : H a = some (.dK kvs) → DnKv K H kvs es → Dn K H (.ref a) (.dict es)
  | dct {a : Addr} {kvs : List (List Key × V)} {es : List (D × D)} : H a = some (.dT kvs) → DnKt K H kvs es → Dn K H (.ref a) (.dict es)
  /-- locked dicts: told by a True ahead -/
  | lkk {a : Addr} {od : Obj} {kvs : List (Key × V)} {es : List (D × D)} : H a = some (.frz od (.dK kvs)) → DnKv K H kvs es → Dn K H (.ref a) (.dict [(.bool true, .dict es)])
  | lkt {a : Addr} {od : Obj} {kvs : List (List Key × V)} {es : List (D × D)} : H a = some (.frz od (.dT kvs)) → DnKt K H kvs es → Dn K H (.ref a) (.dict [(.bool true, .dict es)])
  /-- a range that is kept in a name: told by a False ahead -/
  | rng {a : Addr} {lo hi : Int} : H a = some (.rng lo hi) → Dn K H (.ref a) (.dict [(.bool false, .tuple [.int lo, .int hi])])
  /-- a thing told by its place only -/
  | adr {a : Addr} : Dn K H (.ref a) (.dict [(.bool false, .int (a : Nat))])
  /-- a list that is only read (the script) -/
  | rol {a : Addr} {xs : List V} {ds : List D} : SqL K H a xs → DnAll K H xs ds → Dn K H (.ref a) (.dict [(.none, .list ds)])
inductive DnAll (K : PySem.W.Frag) (H : Hp) : List V → List D → Prop
  | nil : DnAll K H [] []
  | cons {v : V} {vs : List V} {d : D} {ds : List D} : Dn K H v d → DnAll K H vs ds → DnAll K H (v :: vs) (d :: ds)
inductive DnKv (K : PySem.W.Frag) (H : Hp) : List (Key × V) → List (D × D) → Prop
  | nil : DnKv K H [] []
  | cons {k : Key} {v : V} {kvs : List (Key × V)} {d : D} {es : List (D × D)} : Dn K H v d → DnKv K H kvs es → DnKv K H ((k, v) :: kvs) ((kD k, d) :: es)
/-- tuples as keys -/
inductive DnKt (K : PySem.W.Frag) (H : Hp) : List (List Key × V) → List (D × D) → Prop
  | nil : DnKt K H [] []
  | cons {k : List Key} {v : V} {kvs : List (List Key × V)} {d : D} {es : List (D × D)} : Dn K H v d → DnKt K H kvs es → DnKt K H ((k, v) :: kvs) ((.tuple (k.map kD), d) :: es)
end

theorem same_rd {H H' : Hp} {a : Addr} {u : HO} (e : Same H H') (h : Rd H a u) : Rd H' a u := by
  rcases h with h | ⟨o, h⟩
  · exact .inl (e _ _ h)
  · exact .inr ⟨o, e _ _ h⟩
theorem same_t {K : PySem.W.Frag} {H H' : Hp} {a : Addr} {xs : List V} (e : Same H H') (h : SqT K H a xs) : SqT K H' a xs := by
  rcases h with h | h
  · exact .inl (same_rd e h)
  · exact .inr h
theorem same_new {H : Hp} {p : Addr} {o : HO} (h : H p = none) : Same H (upd H p o) := fun b u e => by
  rw [upd_ne (ne_of_none e h)]
  exact e
mutual
theorem Dn.mono {K : PySem.W.Frag} {H H' : Hp} (e : Same H H') : ∀ {v : V} {d : D}, Dn K H v d → Dn K H' v d
  | _, _, .non => .non
  | _, _, .bl b => .bl b
  | _, _, .int i => .int i
  | _, _, .str x => .str x
  | _, _, .lst s a => .lst (same_rd e s) (DnAll.mono e a)
  | _, _, .tup s a => .tup (e _ _ s) (DnAll.mono e a)
  | _, _, .dic s a => .dic (e _ _ s) (DnKv.mono e a)
  | _, _, .dct s a => .dct (e _ _ s) (DnKt.mono e a)
  | _, _, .lkk s a => .lkk (e _ _ s) (DnKv.mono e a)
  | _, _, .lkt s a => .lkt (e _ _ s) (DnKt.mono e a)
  | _, _, .rng s => .rng (e _ _ s)
  | _, _, .adr => .adr
  | _, _, .rol s a => .rol (e.seq s) (DnAll.mono e a)
theorem DnAll.mono {K : PySem.W.Frag} {H H' : Hp} (e : Same H H') : ∀ {v : List V} {d : List D}, DnAll K H v d → DnAll K H' v d
  | _, _, .nil => .nil
  | _, _, .cons h t => .cons (Dn.mono e h) (DnAll.mono e t)
theorem DnKv.mono {K : PySem.W.Frag} {H H' : Hp} (e : Same H H') : ∀ {v : List (Key × V)} {d : List (D × D)}, DnKv K H v d → DnKv K H' v d
  | _, _, .nil => .nil
  | _, _, .cons h t => .cons (Dn.mono e h) (DnKv.mono e t)
theorem DnKt.mono {K : PySem.W.Frag} {H H' : Hp} (e : Same H H') : ∀ {v : List (List Key × V)} {d : List (D × D)}, DnKt K H v d → DnKt K H' v d
  | _, _, .nil => .nil
  | _, _, .cons h t => .cons (Dn.mono e h) (DnKt.mono e t)
end
mutual
theorem Dn.dp {K : PySem.W.Frag} {H : Hp} : ∀ {v : V} {d : D}, Dn K H v d → PyData.canLay0 d = true → Dp K H v d
  | _, _, .non, _ => .non
  | _, _, .bl b, _ => .bl b
  | _, _, .int i, _ => .int i
  | _, _, .str x, _ => .str x
  | _, _, .lst s a, h => .lst (.inl s) (DnAll.dp a (by simpa [PyData.canLay0] using h))
  | _, _, .tup s a, h => .tup (.inl (.inl s)) (DnAll.dp a (by simpa [PyData.canLay0] using h))
  | _, _, .dic s a, h => by simp [PyData.canLay0] at h
  | _, _, .dct s a, h => by simp [PyData.canLay0] at h
  | _, _, .lkk s a, h => by simp [PyData.canLay0] at h
  | _, _, .lkt s a, h => by simp [PyData.canLay0] at h
  | _, _, .rng s, h => by simp [PyData.canLay0] at h
  | _, _, .adr, h => by simp [PyData.canLay0] at h
  | _, _, .rol s a, h => by simp [PyData.canLay0] at h
theorem DnAll.dp {K : PySem.W.Frag} {H : Hp} : ∀ {v : List V} {d : List D}, DnAll K H v d → PyData.canLayAll0 d = true → DpAll K H v d
  | _, _, .nil, _ => .nil
  | _, _, .cons a t, h => by
    simp only [PyData.canLayAll0, Bool.and_eq_true] at h
    exact .cons (Dn.dp a h.1) (DnAll.dp t h.2)
end
section
variable {K : PySem.W.Frag} {H : Hp} {xs ys : List V} {ds es : List D}
theorem DnAll.length : ∀ {xs : List V} {ds : List D}, DnAll K H xs ds → xs.length = ds.length
  | _, _, .nil => rfl
  | _, _, .cons _ t => by rw [List.length_cons, List.length_cons, DnAll.length t]
theorem DnAll.get : ∀ {xs : List V} {ds : List D} {i : Nat} {d : D}, DnAll K H xs ds → ds[i]? = some d → ∃ x, xs[i]? = some x ∧ Dn K H x d
  | _, _, _, _, .nil, h => by simp at h
  | _, _, 0, _, .cons a _, h => by simp at h; subst h; exact ⟨_, rfl, a⟩
  | _, _, i + 1, d, .cons _ t, h => by
    obtain ⟨x, h1, h2⟩ := DnAll.get (i := i) (d := d) t (by simpa using h)
    exact ⟨x, by simpa using h1, h2⟩
theorem DnAll.getV : ∀ {xs : List V} {ds : List D} {i : Nat} {x : V}, DnAll K H xs ds → xs[i]? = some x → ∃ d, ds[i]? = some d ∧ Dn K H x d
  | _, _, _, _, .nil, h => by simp at h
  | _, _, 0, _, .cons a _, h => by simp at h; subst h; exact ⟨_, rfl, a⟩
  | _, _, i + 1, x, .cons _ t, h => by
    obtain ⟨d, h1, h2⟩ := DnAll.getV (i := i) (x := x) t (by simpa using h)
    exact ⟨d, by simpa using h1, h2⟩
theorem DnAll.append : ∀ {xs ys : List V} {ds es : List D}, DnAll K H xs ds → DnAll K H ys es → DnAll K H (xs ++ ys) (ds ++ es)
  | _, _, _, _, .nil, h => h
  | _, _, _, _, .cons a t, h => .cons a (DnAll.append t h)
theorem DnAll.take : ∀ {xs : List V} {ds : List D} (n : Nat), DnAll K H xs ds → DnAll K H (xs.take n) (ds.take n)
  | _, _, 0, _ => by simpa using DnAll.nil
  | _, _, _ + 1, .nil => by simpa using DnAll.nil
  | _, _, n + 1, .cons a t => by simpa using DnAll.cons a (DnAll.take n t)
theorem DnAll.drop : ∀ {xs : List V} {ds : List D} (n : Nat), DnAll K H xs ds → DnAll K H (xs.drop n) (ds.drop n)
  | _, _, 0, h => h
  | _, _, _ + 1, .nil => by simpa using DnAll.nil
  | _, _, n + 1, .cons _ t => by simpa using DnAll.drop n t
theorem DnAll.set {v : V} {d : D} (h : Dn K H v d) : ∀ {xs : List V} {ds : List D} (n : Nat), DnAll K H xs ds → DnAll K H (xs.set n v) (ds.set n d)
  | _, _, _, .nil => .nil
  | _, _, 0, .cons _ t => .cons h t
  | _, _, n + 1, .cons a t => .cons a (DnAll.set h n t)
theorem DnAll.dropLast (h : DnAll K H xs ds) : DnAll K H xs.dropLast ds.dropLast := by
  rw [List.dropLast_eq_take, List.dropLast_eq_take, h.length]
  exact h.take _
theorem DnAll.reverse : ∀ {xs : List V} {ds : List D}, DnAll K H xs ds → DnAll K H xs.reverse ds.reverse
  | _, _, .nil => .nil
  | _, _, .cons a t => by
    rw [List.reverse_cons, List.reverse_cons]
    exact DnAll.append (DnAll.reverse t) (.cons a .nil)
theorem DnAll.rep (h : DnAll K H xs ds) : ∀ k : Nat, DnAll K H (List.replicate k xs).flatten (List.replicate k ds).flatten
  | 0 => .nil
  | k + 1 => by
    rw [List.replicate_succ, List.replicate_succ, List.flatten_cons, List.flatten_cons]
    exact DnAll.append h (DnAll.rep h k)
theorem DnAll.ints : ∀ {xs : List V} {ns : List Int}, DnAll K H xs (ns.map PyData.int) → xs = ns.map V.int
  | _, [], h => by cases h; rfl
  | _, n :: ns, h => by
    cases h with
    | cons a t => cases a; rw [DnAll.ints t]; rfl
theorem DnAll.of_ints : ∀ (ns : List Int), DnAll K H (ns.map V.int) (ns.map PyData.int)
  | [] => .nil
  | n :: ns => .cons (.int n) (DnAll.of_ints ns)
theorem DnAll.strs : ∀ {xs : List V} {ns : List Str}, DnAll K H xs (ns.map PyData.str) → xs = ns.map V.str
  | _, [], h => by cases h; rfl
  | _, n :: ns, h => by
    cases h with
    | cons a t => cases a; rw [DnAll.strs t]; rfl
end

/-! ### heaps: B what is kept for ever, H the heap -/
/-- something stands there, and it is no tuple -/
def NT (H : Hp) (a : Addr) : Prop := ∃ o, H a = some o ∧ ∀ xs, o ≠ .tup xs
theorem NT.ne {H : Hp} {a : Addr} (h : NT H a) : H a ≠ none := by
  obtain ⟨o, e, _⟩ := h
  rw [e]
  exact fun z => nomatch z
theorem NT.mono {H H' : Hp} {a : Addr} (s : Same H H') (h : NT H a) : NT H' a := by
  obtain ⟨o, e, n⟩ := h
  exact ⟨o, s a o e, n⟩
theorem NT.upd {H : Hp} {a p : Addr} {o : HO} (z : a ≠ p) (h : NT H a) : NT (upd H p o) a := by
  obtain ⟨u, e, n⟩ := h
  exact ⟨u, by rw [upd_ne z]; exact e, n⟩
theorem nt_lst {H : Hp} {a : Addr} {xs : List V} (h : H a = some (.lst xs)) : NT H a := ⟨_, h, fun _ z => nomatch z⟩
structure Ext (B H B' H' : Hp) : Prop where
  b : Same B B'
  h : Same H H'
  s : Same B' H'
  n : ∀ a, B a = none → NT H a → B' a = none
theorem Ext.refl {B H : Hp} (h : Same B H) : Ext B H B H := ⟨.refl _, .refl _, h, fun _ h _ => h⟩
theorem Ext.trans {B H B1 H1 B2 H2 : Hp} (x : Ext B H B1 H1) (y : Ext B1 H1 B2 H2) : Ext B H B2 H2 :=
  ⟨x.b.trans y.b, x.h.trans y.h, y.s, fun a h1 h2 => y.n a (x.n a h1 h2) (h2.mono x.h)⟩
theorem same_none {B H : Hp} (s : Same B H) {p : Addr} (h : H p = none) : B p = none := s.free h
theorem Ext.new {B H : Hp} {p : Addr} {o : HO} (s : Same B H) (h : H p = none) : Ext B H (upd B p o) (upd H p o) := by
  refine ⟨same_new (same_none s h), same_new h, fun a u e => ?_, fun a h1 h2 => ?_⟩
  · by_cases q : a = p
    · subst q; rw [upd_same] at e ⊢; exact e
    · rw [upd_ne q] at e ⊢; exact s a u e
  · have : a ≠ p := fun z => by subst z; exact h2.ne h
    rw [upd_ne this]; exact h1
theorem Ext.hid {B H : Hp} {p : Addr} {o : HO} (s : Same B H) (h : H p = none) : Ext B H B (upd H p o) :=
  ⟨.refl _, same_new h, s.trans (same_new h), fun _ h _ => h⟩
/-- a hidden new object is shown -/
theorem Ext.shown {B H B' H' : Hp} {p : Addr} {o : HO} (x : Ext B H B' H') (h : H p = none) (hb : B' p = none) (hp : H' p = some o) : Ext B H (upd B' p o) H' := by
  refine ⟨x.b.trans (same_new hb), x.h, fun a u e => ?_, fun a h1 h2 => ?_⟩
  · by_cases q : a = p
    · subst q; rw [upd_same] at e; rw [hp]; exact e
    · rw [upd_ne q] at e; exact x.s a u e
  · have : a ≠ p := fun z => by subst z; exact h2.ne h
    rw [upd_ne this]; exact x.n a h1 h2

/-- the value at level k: down to depth k its lists may be another's own -/
def DnF (K : PySem.W.Frag) (B H : Hp) : Nat → V → D → Prop
  | 0, v, d => Dn K B v d
  | k + 1, v, d => Dn K B v d ∨ ∃ p xs ds, v = .ref p ∧ d = .list ds ∧ H p = some (.lst xs) ∧ Paired (DnF K B H k) xs ds
section
variable {K : PySem.W.Frag} {B H B' H' : Hp}
theorem DnAll.paired : ∀ {xs : List V} {ds : List D}, DnAll K B xs ds → Paired (Dn K B) xs ds
  | _, _, .nil => .nil
  | _, _, .cons a t => .cons a (DnAll.paired t)
theorem DnAll.of_paired : ∀ {xs : List V} {ds : List D}, Paired (Dn K B) xs ds → DnAll K B xs ds
  | _, _, .nil => .nil
  | _, _, .cons a t => .cons a (DnAll.of_paired t)
theorem DnF.of {k : Nat} {v : V} {d : D} (h : Dn K B v d) : DnF K B H k v d := by
  cases k with
  | zero => exact h
  | succ k => exact .inl h
theorem DnF.mono (x : Ext B H B' H') : ∀ {k : Nat} {v : V} {d : D}, DnF K B H k v d → DnF K B' H' k v d
  | 0, _, _, h => Dn.mono x.b h
  | k + 1, _, _, h => by
    rcases h with h | ⟨p, xs, ds, h1, h2, h3, h4⟩
    · exact .inl (Dn.mono x.b h)
    · exact .inr ⟨p, xs, ds, h1, h2, x.h _ _ h3, Paired.mapP h4 fun _ _ => DnF.mono x⟩
theorem DnF.flu (s : Same B H) : ∀ {k : Nat} {v : V} {d : D}, DnF K B H k v d → Dn K H v d
  | 0, _, _, h => Dn.mono s h
  | k + 1, _, _, h => by
    rcases h with h | ⟨p, xs, ds, rfl, rfl, h3, h4⟩
    · exact Dn.mono s h
    · exact .lst (.inl h3) (.of_paired (Paired.mapP h4 fun _ _ => DnF.flu s))
/-- a list's items, one level down -/
theorem DnF.items (s : Same B H) {k : Nat} {v : V} {ds : List D} (h : DnF K B H k v (.list ds)) : ∃ p xs, v = .ref p ∧ Rd H p (.lst xs) ∧ Paired (DnF K B H (k - 1)) xs ds := by
  cases k with
  | zero =>
    cases h with
    | lst r a => exact ⟨_, _, rfl, same_rd s r, Paired.mapP a.paired fun _ _ h => h⟩
  | succ k =>
    rcases h with h | ⟨p, xs, ds', rfl, e, h3, h4⟩
    · cases h with
      | lst r a => exact ⟨_, _, rfl, same_rd s r, Paired.mapP a.paired fun _ _ h => .of h⟩
    · cases e
      exact ⟨_, _, rfl, .inl h3, h4⟩
theorem DnF.tups (s : Same B H) {k : Nat} {v : V} {ds : List D} (h : DnF K B H k v (.tuple ds)) : ∃ p xs, v = .ref p ∧ SqT K H p xs ∧ DnAll K B xs ds := by
  have h' : Dn K B v (.tuple ds) := by
    cases k with
    | zero => exact h
    | succ k =>
      rcases h with h | ⟨p, xs, ds', rfl, e, h3, h4⟩
      · exact h
      · cases e
  cases h' with
  | tup r a => exact ⟨_, _, rfl, .inl (.inl (s _ _ r)), a⟩
theorem kv_none {K : PySem.W.Frag} {H : Hp} {kvs : List (Key × V)} {d : D} {es : List (D × D)} (h : DnKv K H kvs ((.none, d) :: es)) : False := by
  generalize e : ((PyData.none, d) :: es : List (D × D)) = l at h
  cases h with
  | nil => cases e
  | @cons k _ _ _ _ _ _ =>
    injection e with e1 _
    injection e1 with e2 _
    cases k <;> cases e2
/-- the script and its like, as data -/
abbrev rolD (ds : List D) : D := .dict [(.none, .list ds)]
theorem DnF.rol (s : Same B H) {k : Nat} {v : V} {ds : List D} (h : DnF K B H k v (rolD ds)) : ∃ p xs, v = .ref p ∧ SqL K B p xs ∧ SqL K H p xs ∧ DnAll K B xs ds := by
  have h' : Dn K B v (rolD ds) := by
    cases k with
    | zero => exact h
    | succ k =>
      rcases h with h | ⟨p, xs, ds', rfl, e, h3, h4⟩
      · exact h
      · cases e
  cases h' with
  | rol r a => exact ⟨_, _, rfl, r, s.seq r, a⟩
  | dic r a => exact (kv_none a).elim
  | dct r a => cases a
theorem DnF.int {k : Nat} {v : V} {i : Int} (h : DnF K B H k v (.int i)) : v = .int i := by
  cases k with
  | zero => cases h; rfl
  | succ k =>
    rcases h with h | ⟨p, xs, ds', rfl, e, h3, h4⟩
    · cases h; rfl
    · cases e
theorem DnF.bool {k : Nat} {v : V} {i : Bool} (h : DnF K B H k v (.bool i)) : v = .bl i := by
  cases k with
  | zero => cases h; rfl
  | succ k =>
    rcases h with h | ⟨p, xs, ds', rfl, e, h3, h4⟩
    · cases h; rfl
    · cases e
theorem DnF.str {k : Nat} {v : V} {i : Str} (h : DnF K B H k v (.str i)) : v = .str i := by
  cases k with
  | zero => cases h; rfl
  | succ k =>
    rcases h with h | ⟨p, xs, ds', rfl, e, h3, h4⟩
    · cases h; rfl
    · cases e
theorem DnF.none {k : Nat} {v : V} (h : DnF K B H k v .none) : v = .non := by
  cases k with
  | zero => cases h; rfl
  | succ k =>
    rcases h with h | ⟨p, xs, ds', rfl, e, h3, h4⟩
    · cases h; rfl
    · cases e
end

/-! ### the ground: what a def's body stands on -/
structure Gd where
  K : PySem.W.Frag
  mg : Str → Option Value
  W : WX
  B : Hp
  H : Hp
  x : Option (Nat × Addr × Addr × List (Str × V)) := none
/-- a slot at level k: 0 kept for ever, 1 a list of its own -/
def SR (K : PySem.W.Frag) (own : Addr → Prop) (B H : Hp) : Nat → V → D → Prop
  | 0, v, d => Dn K B v d
  | 1, v, d => ∃ p xs ds, v = .ref p ∧ d = .list ds ∧ own p ∧ H p = some (.lst xs) ∧ DnAll K B xs ds
  /- a list of its own, of lists of its own -/
  | 2, v, d => ∃ p qs dss, v = .ref p ∧ d = .list (dss.map PyData.list) ∧ own p ∧ H p = some (.lst (qs.map V.ref)) ∧ qs.Nodup ∧ p ∉ qs ∧ Paired (fun q (ds : List D) => own q ∧ ∃ ys, H q = some (.lst ys) ∧ DnAll K B ys ds) qs dss
  /- a dict of its own, its keys ints or texts; tuples of these -/
  | 3, v, d => ∃ p kvs es, v = .ref p ∧ d = .dict es ∧ own p ∧ H p = some (.dK kvs) ∧ DnKv K B kvs es
  | 4, v, d => ∃ p kvs es, v = .ref p ∧ d = .dict es ∧ own p ∧ H p = some (.dT kvs) ∧ DnKt K B kvs es
  | _, _, _ => False
structure EnvR (G : Gd) (ow : List Nat) (B H : Hp) (σ : L2.St) (γ : Env) : Prop where
  s : Same B H
  e : Ext G.B G.H B H
  len : γ.length = σ.length
  x : ∀ t, G.x = some t → σ[t.1]? = some (some (.ref t.2.1)) ∧ H t.2.2.1 = some (.xd t.2.2.2)
  v : ∃ own : Nat → Addr → Prop, (∀ i a, own i a → B a = none ∧ G.H a = none ∧ NT H a) ∧ (∀ i j a, own i a → own j a → i = j) ∧
    ∀ i d, γ[i]? = some (some d) → ∃ v, σ[i]? = some (some v) ∧ SR G.K (own i) B H (ow.getD i 0) v d
section
variable {G : Gd} {ow : List Nat} {B H B' H' : Hp} {σ : L2.St} {γ : Env}
theorem SR.mono {K : PySem.W.Frag} {own : Addr → Prop} {k : Nat} {v : V} {d : D} (x : Ext B H B' H') (h : SR K own B H k v d) : SR K own B' H' k v d := by
  match k, h with
  | 0, h => exact Dn.mono x.b h
  | 1, ⟨p, xs, ds, h1, h2, h3, h4, h5⟩ => exact ⟨p, xs, ds, h1, h2, h3, x.h _ _ h4, h5.mono x.b⟩
  | 2, ⟨p, qs, dss, h1, h2, h3, h4, h5, h6, h7⟩ => exact ⟨p, qs, dss, h1, h2, h3, x.h _ _ h4, h5, h6, Paired.mapP h7 fun _ _ ⟨z1, ys, z2, z3⟩ => ⟨z1, ys, x.h _ _ z2, z3.mono x.b⟩⟩
  | 3, ⟨p, xs, ds, h1, h2, h3, h4, h5⟩ => exact ⟨p, xs, ds, h1, h2, h3, x.h _ _ h4, h5.mono x.b⟩
  | 4, ⟨p, xs, ds, h1, h2, h3, h4, h5⟩ => exact ⟨p, xs, ds, h1, h2, h3, x.h _ _ h4, h5.mono x.b⟩
theorem SR.monoB {K : PySem.W.Frag} {own own' : Addr → Prop} {k : Nat} {v : V} {d : D} (s : Same B B') (ho : ∀ a, own a → own' a) (h : SR K own B H k v d) : SR K own' B' H k v d := by
  match k, h with
  | 0, h => exact Dn.mono s h
  | 1, ⟨p, xs, ds, h1, h2, h3, h4, h5⟩ => exact ⟨p, xs, ds, h1, h2, ho _ h3, h4, h5.mono s⟩
  | 2, ⟨p, qs, dss, h1, h2, h3, h4, h5, h6, h7⟩ => exact ⟨p, qs, dss, h1, h2, ho _ h3, h4, h5, h6, Paired.mapP h7 fun _ _ ⟨z1, ys, z2, z3⟩ => ⟨ho _ z1, ys, z2, z3.mono s⟩⟩
  | 3, ⟨p, xs, ds, h1, h2, h3, h4, h5⟩ => exact ⟨p, xs, ds, h1, h2, ho _ h3, h4, h5.mono s⟩
  | 4, ⟨p, xs, ds, h1, h2, h3, h4, h5⟩ => exact ⟨p, xs, ds, h1, h2, ho _ h3, h4, h5.mono s⟩
theorem SR.keepH {K : PySem.W.Frag} {own : Addr → Prop} {k : Nat} {v : V} {d : D} (hk : ∀ a, own a → H' a = H a) (h : SR K own B H k v d) : SR K own B H' k v d := by
  match k, h with
  | 0, h => exact h
  | 1, ⟨p, xs, ds, h1, h2, h3, h4, h5⟩ => exact ⟨p, xs, ds, h1, h2, h3, (hk p h3).trans h4, h5⟩
  | 2, ⟨p, qs, dss, h1, h2, h3, h4, h5, h6, h7⟩ => exact ⟨p, qs, dss, h1, h2, h3, (hk p h3).trans h4, h5, h6, Paired.mapP h7 fun q _ ⟨z1, ys, z2, z3⟩ => ⟨z1, ys, (hk q z1).trans z2, z3⟩⟩
  | 3, ⟨p, xs, ds, h1, h2, h3, h4, h5⟩ => exact ⟨p, xs, ds, h1, h2, h3, (hk p h3).trans h4, h5⟩
  | 4, ⟨p, xs, ds, h1, h2, h3, h4, h5⟩ => exact ⟨p, xs, ds, h1, h2, h3, (hk p h3).trans h4, h5⟩
theorem paired_maps {α β γ δ : Type} {F : α → β → Prop} {G : γ → δ → Prop} (f : α → γ) (g : β → δ) (h : ∀ a b, F a b → G (f a) (g b)) : ∀ {xs : List α} {ys : List β}, Paired F xs ys → Paired G (xs.map f) (ys.map g)
  | _, _, .nil => .nil
  | _, _, .cons a t => .cons (h _ _ a) (paired_maps f g h t)
theorem SR.kept {K : PySem.W.Frag} {own : Addr → Prop} {k : Nat} {v : V} {d : D} (s : Same B B') (hb : ∀ a, own a → B' a = H a) (h : SR K own B H k v d) : Dn K B' v d := by
  match k, h with
  | 0, h => exact Dn.mono s h
  | 1, ⟨p, xs, ds, h1, h2, h3, h4, h5⟩ =>
    rw [h1, h2]
    exact .lst (.inl ((hb p h3).trans h4)) (h5.mono s)
  | 2, ⟨p, qs, dss, h1, h2, h3, h4, h5, h6, h7⟩ =>
    rw [h1, h2]
    exact .lst (.inl ((hb p h3).trans h4)) (.of_paired (paired_maps V.ref PyData.list (fun q ds ⟨z1, ys, z2, z3⟩ => .lst (.inl ((hb q z1).trans z2)) (z3.mono s)) h7))
  | 3, ⟨p, xs, ds, h1, h2, h3, h4, h5⟩ =>
    rw [h1, h2]
    exact .dic ((hb p h3).trans h4) (h5.mono s)
  | 4, ⟨p, xs, ds, h1, h2, h3, h4, h5⟩ =>
    rw [h1, h2]
    exact .dct ((hb p h3).trans h4) (h5.mono s)
theorem SR.dnf {K : PySem.W.Frag} {own : Addr → Prop} {k : Nat} {v : V} {d : D} (hk : k ≤ 2) (h : SR K own B H k v d) : DnF K B H k v d := by
  match k, h with
  | 0, h => exact h
  | 1, ⟨p, xs, ds, h1, h2, _, h4, h5⟩ => exact .inr ⟨p, xs, ds, h1, h2, h4, Paired.mapP h5.paired fun _ _ h => h⟩
  | 2, ⟨p, qs, dss, h1, h2, h3, h4, h5, h6, h7⟩ => exact .inr ⟨p, _, _, h1, h2, h4, paired_maps V.ref PyData.list (fun q ds ⟨z1, ys, z2, z3⟩ => .inr ⟨q, ys, ds, rfl, rfl, z2, Paired.mapP z3.paired fun _ _ h => h⟩) h7⟩
theorem EnvR.mono (I : EnvR G ow B H σ γ) (x : Ext B H B' H') : EnvR G ow B' H' σ γ := by
  obtain ⟨own, h1, h2, h3⟩ := I.v
  refine ⟨x.s, I.e.trans x, I.len, fun t z => ⟨(I.x t z).1, x.h _ _ (I.x t z).2⟩, own, fun i a h => ?_, h2, fun i d h => ?_⟩
  · obtain ⟨q1, q2, q3⟩ := h1 i a h
    exact ⟨x.n a q1 q3, q2, q3.mono x.h⟩
  · obtain ⟨v, e, r⟩ := h3 i d h
    exact ⟨v, e, r.mono x⟩
theorem ow_set_self (ow : List Nat) (i k : Nat) (h : i < ow.length ∨ k = 0) : (ow.set i k).getD i 0 = k := by
  rw [List.getD_eq_getElem?_getD]
  by_cases q : i < ow.length
  · rw [List.getElem?_set_self q]; rfl
  · rw [List.getElem?_eq_none (by rw [List.length_set]; omega)]
    rcases h with h | h
    · exact absurd h q
    · subst h; rfl
theorem ow_set_ne (ow : List Nat) {i j : Nat} (k : Nat) (h : j ≠ i) : (ow.set i k).getD j 0 = ow.getD j 0 := by
  rw [List.getD_eq_getElem?_getD, List.getElem?_set_ne (Ne.symm h), ← List.getD_eq_getElem?_getD]
open Classical in
/-- a slot is kept for ever from now on -/
theorem EnvR.frz (I : EnvR G ow B H σ γ) (i : Nat) : ∃ B', Same B B' ∧ EnvR G (ow.set i 0) B' H σ γ := by
  obtain ⟨own, h1, h2, h3⟩ := I.v
  have sB : Same B (fun a => if own i a then H a else B a) := fun a u e => by
    have : ¬ own i a := fun z => by rw [(h1 i a z).1] at e; cases e
    show (if own i a then H a else B a) = _
    rw [if_neg this]
    exact e
  have sH : Same (fun a => if own i a then H a else B a) H := fun a u e => by
    dsimp only at e
    split at e
    · exact e
    · exact I.s a u e
  refine ⟨fun a => if own i a then H a else B a, sB, sH, ⟨I.e.b.trans sB, I.e.h, sH, fun a z1 z2 => ?_⟩, I.len, I.x, fun j a => j ≠ i ∧ own j a, fun j a h => ?_, fun j k a h h' => h2 j k a h.2 h'.2, fun j d h => ?_⟩
  · show (if own i a then H a else B a) = _
    rw [if_neg fun z => z2.ne (h1 i a z).2.1]
    exact I.e.n a z1 z2
  · obtain ⟨c1, c2, c3⟩ := h1 j a h.2
    refine ⟨?_, c2, c3⟩
    show (if own i a then H a else B a) = _
    rw [if_neg fun z => h.1 (h2 j i a h.2 z)]
    exact c1
  · obtain ⟨v, e, r⟩ := h3 j d h
    refine ⟨v, e, ?_⟩
    by_cases z : j = i
    · subst z
      rw [ow_set_self _ _ _ (.inr rfl)]
      exact r.kept sB fun a ha => if_pos ha
    · rw [ow_set_ne _ _ z]
      exact r.monoB sB fun a ha => ⟨z, ha⟩
/-- everything is kept for ever -/
theorem EnvR.all (I : EnvR G ow B H σ γ) : ∀ n : Nat, ∃ B', Same B B' ∧ EnvR G (((List.range n).foldl (fun o i => o.set i 0) ow)) B' H σ γ
  | 0 => ⟨B, .refl _, I⟩
  | n + 1 => by
    obtain ⟨B1, s1, I1⟩ := EnvR.all I n
    obtain ⟨B2, s2, I2⟩ := I1.frz n
    refine ⟨B2, s1.trans s2, ?_⟩
    rw [List.range_succ, List.foldl_append]
    exact I2
theorem foldl_set_getD (ow : List Nat) (n j : Nat) : ((List.range n).foldl (fun o i => o.set i 0) ow).getD j 0 = if j < n then 0 else ow.getD j 0 := by
  induction n with
  | zero => simp
  | succ n ih =>
    rw [List.range_succ, List.foldl_append]
    show ((((List.range n).foldl (fun o i => o.set i 0) ow)).set n 0).getD j 0 = _
    rw [List.getD_eq_getElem?_getD]
    by_cases h : j = n
    · subst h
      rw [if_pos (by omega)]
      by_cases q : j < ((List.range j).foldl (fun o i => o.set i 0) ow).length
      · rw [List.getElem?_set_self q]; rfl
      · rw [List.getElem?_eq_none (by rw [List.length_set]; omega)]; rfl
    · rw [List.getElem?_set_ne (Ne.symm h), ← List.getD_eq_getElem?_getD, ih]
      by_cases q : j < n
      · rw [if_pos q, if_pos (by omega)]
      · rw [if_neg q, if_neg (by omega)]
theorem EnvR.reow {ow' : List Nat} (I : EnvR G ow B H σ γ) (h : ∀ j, j < γ.length → ow'.getD j 0 = ow.getD j 0) : EnvR G ow' B H σ γ := by
  obtain ⟨own, h1, h2, h3⟩ := I.v
  refine ⟨I.s, I.e, I.len, I.x, own, h1, h2, fun i d e => ?_⟩
  rw [h i (by
    by_cases z : i < γ.length
    · exact z
    · rw [List.getElem?_eq_none (by omega)] at e; cases e)]
  exact h3 i d e
theorem EnvR.allF (I : EnvR G ow B H σ γ) : ∃ B', Same B B' ∧ EnvR G [] B' H σ γ := by
  obtain ⟨B', s, I'⟩ := I.all γ.length
  refine ⟨B', s, I'.reow fun j hj => ?_⟩
  rw [foldl_set_getD, if_pos hj]
  rfl
/-- slots are forgotten -/
theorem EnvR.sub {σ' : L2.St} {γ' : Env} (I : EnvR G ow B H σ γ) (hx : ∀ t, G.x = some t → σ'[t.1]? = σ[t.1]?) (hl : γ'.length = σ'.length) (h : ∀ (i : Nat) d, γ'[i]? = some (some d) → γ[i]? = some (some d) ∧ ∀ v, σ[i]? = some (some v) → σ'[i]? = some (some v)) : EnvR G ow B H σ' γ' := by
  obtain ⟨own, h1, h2, h3⟩ := I.v
  refine ⟨I.s, I.e, hl, fun t z => ⟨(hx t z).trans (I.x t z).1, (I.x t z).2⟩, own, h1, h2, fun i d e => ?_⟩
  obtain ⟨e1, e2⟩ := h i d e
  obtain ⟨v, e3, r⟩ := h3 i d e1
  exact ⟨v, e2 v e3, r⟩
theorem EnvR.lt (I : EnvR G ow B H σ γ) {i : Nat} {d : D} (h : γ[i]? = some (some d)) : i < γ.length := by
  by_cases z : i < γ.length
  · exact z
  · rw [List.getElem?_eq_none (by omega)] at h; cases h
/-- a slot is given a value that is kept for ever -/
theorem EnvR.set (I : EnvR G ow B H σ γ) (i : Nat) (hx : G.x = none) {v : V} {d : D} (h : Dn G.K B v d) : EnvR G (ow.set i 0) B H (σ.set i (some v)) (γ.set i (some d)) := by
  obtain ⟨own, h1, h2, h3⟩ := I.v
  refine ⟨I.s, I.e, by rw [List.length_set, List.length_set, I.len], (fun t z => by rw [hx] at z; cases z), own, h1, h2, fun j e q => ?_⟩
  by_cases z : j = i
  · subst z
    have hj : j < γ.length := by
      by_cases y : j < γ.length
      · exact y
      · rw [List.getElem?_eq_none (by rw [List.length_set]; omega)] at q; cases q
    rw [List.getElem?_set_self hj] at q
    cases q
    refine ⟨v, List.getElem?_set_self (by rw [← I.len]; exact hj), ?_⟩
    rw [ow_set_self _ _ _ (.inr rfl)]
    exact h
  · rw [List.getElem?_set_ne (Ne.symm z)] at q
    obtain ⟨w, e1, r⟩ := h3 j e q
    refine ⟨w, by rw [List.getElem?_set_ne (Ne.symm z)]; exact e1, ?_⟩
    rw [ow_set_ne _ _ z]
    exact r
/-- a slot is given a new list of its own -/
theorem EnvR.setN (I : EnvR G ow B H σ γ) (i : Nat) (hx : G.x = none) (hi : i < ow.length) {B' H' : Hp} {p : Addr} {xs : List V} {ds : List D} (x : Ext B H B' H') (hp : H p = none) (hb : B' p = none) (hl : H' p = some (.lst xs)) (h : DnAll G.K B' xs ds) :
    EnvR G (ow.set i 1) B' H' (σ.set i (some (.ref p))) (γ.set i (some (.list ds))) := by
  have I' := I.mono x
  obtain ⟨own0, g1, g2, g3⟩ := I.v
  have hG : G.H p = none := by
    cases q : G.H p with
    | none => rfl
    | some o => rw [I.e.h p o q] at hp; cases hp
  refine ⟨I'.s, I'.e, by rw [List.length_set, List.length_set, I'.len], (fun t z => by rw [hx] at z; cases z), fun j a => if j = i then a = p else own0 j a, fun j a hj => ?_, fun j k a hj hk => ?_, fun j e q => ?_⟩
  · dsimp only at hj
    split at hj
    · subst hj
      exact ⟨hb, hG, nt_lst hl⟩
    · obtain ⟨c1, c2, c3⟩ := g1 j a hj
      exact ⟨x.n a c1 c3, c2, c3.mono x.h⟩
  · dsimp only at hj hk
    split at hj
    · rename_i e1
      split at hk
      · rename_i e2; rw [e1, e2]
      · subst hj
        exact absurd hp (g1 k a hk).2.2.ne
    · split at hk
      · subst hk
        exact absurd hp (g1 j a hj).2.2.ne
      · exact g2 j k a hj hk
  · by_cases z : j = i
    · subst z
      have hj : j < γ.length := by
        by_cases y : j < γ.length
        · exact y
        · rw [List.getElem?_eq_none (by rw [List.length_set]; omega)] at q; cases q
      rw [List.getElem?_set_self hj] at q
      cases q
      refine ⟨.ref p, List.getElem?_set_self (by rw [← I.len]; exact hj), ?_⟩
      rw [ow_set_self _ _ _ (.inl hi)]
      exact ⟨p, xs, ds, rfl, rfl, by dsimp only; rw [if_pos rfl], hl, h⟩
    · rw [List.getElem?_set_ne (Ne.symm z)] at q
      obtain ⟨w, e1, r⟩ := g3 j e q
      refine ⟨w, by rw [List.getElem?_set_ne (Ne.symm z)]; exact e1, ?_⟩
      rw [ow_set_ne _ _ z]
      have e5 : (fun a => if j = i then a = p else own0 j a) = own0 j := by
        funext a; rw [if_neg z]
      show SR G.K (fun a => if j = i then a = p else own0 j a) B' H' _ w e
      rw [e5]
      exact r.mono x
/-- the list of a slot of its own is written -/
theorem EnvR.wr (I : EnvR G ow B H σ γ) {i : Nat} {ds : List D} (hx : G.x = none) (hk : ow.getD i 0 = 1) (hg : γ[i]? = some (some (.list ds))) :
    ∃ p xs, σ[i]? = some (some (.ref p)) ∧ H p = some (.lst xs) ∧ DnAll G.K B xs ds ∧ ∀ ys es, DnAll G.K B ys es → EnvR G ow B (upd H p (.lst ys)) σ (γ.set i (some (.list es))) := by
  obtain ⟨own, h1, h2, h3⟩ := I.v
  obtain ⟨v, e, r⟩ := h3 i _ hg
  rw [hk] at r
  obtain ⟨p, xs, ds', rfl, q2, q3, q4, q5⟩ := r
  cases q2
  obtain ⟨b1, b2, b3⟩ := h1 i p q3
  refine ⟨p, xs, e, q4, q5, fun ys es hy => ?_⟩
  have sB : Same B (upd H p (.lst ys)) := fun a u z => by
    have : a ≠ p := fun y => by subst y; rw [b1] at z; cases z
    rw [upd_ne this]; exact I.s a u z
  refine ⟨sB, ⟨I.e.b, fun a u z => ?_, sB, I.e.n⟩, by rw [List.length_set, I.len], (fun t z => by rw [hx] at z; cases z), own, fun j a hj => ?_, h2, fun j d q => ?_⟩
  · have : a ≠ p := fun y => by subst y; rw [b2] at z; cases z
    rw [upd_ne this]; exact I.e.h a u z
  · obtain ⟨c1, c2, c3⟩ := h1 j a hj
    refine ⟨c1, c2, ?_⟩
    by_cases z : a = p
    · subst z; exact nt_lst upd_same
    · exact c3.upd z
  · by_cases z : j = i
    · subst z
      have hj : j < γ.length := I.lt hg
      rw [List.getElem?_set_self hj] at q
      cases q
      refine ⟨_, e, ?_⟩
      rw [hk]
      exact ⟨p, ys, es, rfl, rfl, q3, upd_same, hy⟩
    · rw [List.getElem?_set_ne (Ne.symm z)] at q
      obtain ⟨w, e1, r⟩ := h3 j d q
      refine ⟨w, e1, r.keepH fun a ha => upd_ne fun y => by subst y; exact z (h2 j i _ ha q3)⟩
end
end DL
set_option Elab.async false
set_option linter.all false
set_option maxRecDepth 100000
set_option maxHeartbeats 4000000
namespace DL
open PySem PySem.Spec PyProof.Rows L2

/-! ### the canonical readings -/
abbrev FR (G : Gd) (B' : Hp) : List (Str × V) → List (Str × D) → Prop := Paired fun (p : Str × V) (q : Str × D) => p.1 = q.1 ∧ Dn G.K B' p.2 q.2
def ErP (G : Gd) (σ : L2.St) (B H : Hp) (c : Str) (fs : List (Str × D)) : Prop :=
  ∀ C dd B' H' fs', Ext B H B' H' → G.mg c = some (.ref C) → H' dd = some (.xd fs') → FR G B' fs' fs → G.W (.ref C) (some dd) σ H'
def RsP {α : Type} (G : Gd) (σ : L2.St) (B H : Hp) (r : Rs α) (P : α → Prop) : Prop := match r with
  | .ok a => P a
  | .er c fs => ErP G σ B H c fs
  | .no => False
section
variable {G : Gd} {σ : L2.St} {B H B' H' : Hp} {α β : Type}
theorem RsP.bind {x : Rs α} {f : α → Rs β} {P : β → Prop} (h : RsP G σ B H (x.bind f) P) : RsP G σ B H x fun a => RsP G σ B H (f a) P := by
  cases x with
  | ok a => exact h
  | er c fs => exact h
  | no => exact h
theorem RsP.map {x : Rs α} {f : α → β} {P : β → Prop} (h : RsP G σ B H (x.map f) P) : RsP G σ B H x fun a => P (f a) := by
  cases x with
  | ok a => exact h
  | er c fs => exact h
  | no => exact h
theorem ErP.mono {c : Str} {fs : List (Str × D)} (x : Ext B H B' H') (h : ErP G σ B H c fs) : ErP G σ B' H' c fs := fun C dd B1 H1 fs' e h1 h2 h3 => h C dd B1 H1 fs' (x.trans e) h1 h2 h3
theorem RsP.mono {x : Rs α} {P Q : α → Prop} (e : Ext B H B' H') (h : RsP G σ B H x P) (hp : ∀ a, P a → Q a) : RsP G σ B' H' x Q := by
  cases x with
  | ok a => exact hp a h
  | er c fs => exact ErP.mono e h
  | no => exact h
theorem RsP.imp {x : Rs α} {P Q : α → Prop} (h : RsP G σ B H x P) (hp : ∀ a, P a → Q a) : RsP G σ B H x Q := by
  cases x with
  | ok a => exact hp a h
  | er c fs => exact h
  | no => exact h
end
def oR {α : Type} : Option α → Rs α
  | some a => .ok a
  | none => .no
@[simp] theorem oR_some {α : Type} (a : α) : oR (some a) = .ok a := Eq.trans (Eq.refl _) rfl
@[simp] theorem oR_none {α : Type} : oR (none : Option α) = .no := Eq.trans (Eq.refl _) rfl
theorem RsP.oR {G : Gd} {σ : L2.St} {B H : Hp} {α : Type} {x : Option α} {P : α → Prop} (h : RsP G σ B H (oR x) P) : ∃ a, x = some a ∧ P a := by
  cases x with
  | some a => exact ⟨a, rfl, h⟩
  | none => exact h.elim

/-- an expression, its value at level k -/
def cV (G : Gd) (ow : List Nat) (k : Nat) (f : Env → Rs D) : TE := fun σ H Q => ∃ B γ, EnvR G ow B H σ γ ∧ RsP G σ B H (f γ) fun d => ∀ v B' H', Ext B H B' H' → DnF G.K B' H' k v d → Q v H'
/-- an expression that makes a new list -/
def cN (G : Gd) (ow : List Nat) (f : Env → Rs (List D)) : TE := fun σ H Q => ∃ B γ, EnvR G ow B H σ γ ∧ RsP G σ B H (f γ) fun ds => ∀ p xs B' H', Ext B H B' H' → H p = none → B' p = none → H' p = some (.lst xs) → DnAll G.K B' xs ds → Q (.ref p) H'
def cT (G : Gd) (ow : List Nat) (f : Env → Rs Bool) : TT := fun σ H Q => ∃ B γ, EnvR G ow B H σ γ ∧ RsP G σ B H (f γ) fun b => ∀ B' H', Ext B H B' H' → Q b H'
/-- arguments, each at level k -/
def cA (G : Gd) (ow : List Nat) (k : Nat) (f : Env → Rs (List D)) : TA := fun σ H Q => ∃ B γ, EnvR G ow B H σ γ ∧ RsP G σ B H (f γ) fun ds => ∀ vs B' H', Ext B H B' H' → Paired (DnF G.K B' H' k) vs ds → Q vs H'
/-- a part of a slice -/
def cO (G : Gd) (ow : List Nat) (f : Env → Rs (Option Int)) : TO := fun σ H Q => ∃ B γ, EnvR G ow B H σ γ ∧ RsP G σ B H (f γ) fun o => ∀ B' H', Ext B H B' H' → Q o H'

section
variable {X : Cx} {e a b : Expr} {es : List Expr} {pos : Pos} {G : Gd} {ow : List Nat} {f g : Env → Rs D} {k : Nat}
theorem _root_.L2.PE.impD {t t' : TE} (h : PE X e t) (hi : ∀ σ H Q, t' σ H Q → t σ H Q) : PE X e t' := ⟨fun pins s σ H Q I q => h.run pins s σ H Q I (hi σ H Q q)⟩
theorem _root_.L2.PT.impD {t t' : TT} (h : PT X e t) (hi : ∀ σ H Q, t' σ H Q → t σ H Q) : PT X e t' := ⟨fun pins s σ H Q I q => h.run pins s σ H Q I (hi σ H Q q)⟩
theorem _root_.L2.PA.impD {t t' : TA} (h : PA X es t) (hi : ∀ σ H Q, t' σ H Q → t σ H Q) : PA X es t' := ⟨fun p pins s σ H Q I q => h.run p pins s σ H Q I (hi σ H Q q)⟩
theorem _root_.L2.PO.impD {e : Option Expr} {t t' : TO} (h : PO X e t) (hi : ∀ σ H Q, t' σ H Q → t σ H Q) : PO X e t' := ⟨fun pins s σ H Q I q => h.run pins s σ H Q I (hi σ H Q q)⟩
theorem w1 (h : PE X e (cV G ow 0 f)) : PE X e (cV G ow 1 f) := h.impD fun σ H Q ⟨B, γ, I, r⟩ => ⟨B, γ, I, r.imp fun d q v B' H' x hv => q v B' H' x (.of hv)⟩
def mkL : Rs (List D) → Rs D := Rs.map PyData.list
theorem e_of_n {f : Env → Rs (List D)} (h : PE X e (cN G ow f)) : PE X e (cV G ow 0 fun γ => (f γ).map PyData.list) := h.impD fun σ H Q ⟨B, γ, I, r⟩ => ⟨B, γ, I, r.map.imp fun ds q p xs B' H' x hp hb hl hd =>
  q (.ref p) _ H' (x.shown hp hb hl) (.lst (.inl upd_same) (hd.mono (same_new hb)))⟩
/-! ### names, constants -/
def gE (γ : Env) (i : Nat) : Rs D := match γ[i]? with
  | some (some d) => .ok d
  | _ => .no
theorem gE_some {γ : Env} {i : Nat} {d : D} (h : γ[i]? = some (some d)) : gE γ i = .ok d := by unfold gE; rw [h]
theorem RsP.gE {σ : L2.St} {B H : Hp} {γ : Env} {i : Nat} {P : D → Prop} (h : RsP G σ B H (gE γ i) P) : ∃ d, γ[i]? = some (some d) ∧ P d := by
  unfold DL.gE at h
  split at h
  · rename_i d e; exact ⟨d, e, h⟩
  · exact h.elim
/-- a name whose value is kept for ever -/
theorem d_var {x : Str} (i : Nat) (h0 : ow.getD i 0 = 0 := by rfl) (hN : X.N[i]? = some x := by rfl) (hv : Vis X.env.scope x := by first | exact Or.inl rfl | exact Or.inr (Or.inl rfl) | exact Or.inr (Or.inr rfl)) (hd : (x == ("__debug__" : Str)) = false := by decide) (hcd : (x == ("__classdict__" : Str)) = false := by decide) :
    PE X (.Name x pos) (cV G ow 0 fun γ => gE γ i) := (pe_var hN hv hd hcd).impD fun σ H Q ⟨B, γ, I, r⟩ => by
  obtain ⟨d, e, q⟩ := r.gE
  obtain ⟨own, h1, h2, h3⟩ := I.v
  obtain ⟨v, e1, r1⟩ := h3 i d e
  rw [h0] at r1
  exact ⟨v, e1, q v B H (.refl I.s) r1⟩
/-- any name, to be looked at -/
theorem f_var {x : Str} (i : Nat) (hk : ow.getD i 0 ≤ 1 := by decide) (hN : X.N[i]? = some x := by rfl) (hv : Vis X.env.scope x := by first | exact Or.inl rfl | exact Or.inr (Or.inl rfl) | exact Or.inr (Or.inr rfl)) (hd : (x == ("__debug__" : Str)) = false := by decide) (hcd : (x == ("__classdict__" : Str)) = false := by decide) :
    PE X (.Name x pos) (cV G ow 1 fun γ => gE γ i) := (pe_var hN hv hd hcd).impD fun σ H Q ⟨B, γ, I, r⟩ => by
  obtain ⟨d, e, q⟩ := r.gE
  obtain ⟨own, h1, h2, h3⟩ := I.v
  obtain ⟨v, e1, r1⟩ := h3 i d e
  refine ⟨v, e1, q v B H (.refl I.s) ?_⟩
  generalize ow.getD i 0 = k at r1 hk
  match k, r1 with
  | 0, r1 => exact .inl r1
  | 1, ⟨p, xs, ds, z1, z2, _, z4, z5⟩ => exact .inr ⟨p, xs, ds, z1, z2, z4, Paired.mapP z5.paired fun _ _ h => h⟩
/-- any name, to be looked at; its lists' lists too -/
theorem f_var2 {x : Str} (i : Nat) (hk : ow.getD i 0 = 2 := by rfl) (hN : X.N[i]? = some x := by rfl) (hv : Vis X.env.scope x := by first | exact Or.inl rfl | exact Or.inr (Or.inl rfl) | exact Or.inr (Or.inr rfl)) (hd : (x == ("__debug__" : Str)) = false := by decide) (hcd : (x == ("__classdict__" : Str)) = false := by decide) :
    PE X (.Name x pos) (cV G ow 2 fun γ => gE γ i) := (pe_var hN hv hd hcd).impD fun σ H Q ⟨B, γ, I, r⟩ => by
  obtain ⟨d, e, q⟩ := r.gE
  obtain ⟨own, h1, h2, h3⟩ := I.v
  obtain ⟨v, e1, r1⟩ := h3 i d e
  rw [hk] at r1
  exact ⟨v, e1, q v B H (.refl I.s) (r1.dnf (Nat.le_refl _))⟩
theorem d_c {v : V} {d : D} (h : PE X e (tC v)) (hd : ∀ B, Dn G.K B v d) : PE X e (cV G ow 0 fun _ => .ok d) := h.impD fun σ H Q ⟨B, γ, I, r⟩ => r v B H (.refl I.s) (hd B)
theorem d_int {i : Int} {j : Nat} : PE X (.Constant (.int i) j pos) (cV G ow 0 fun _ => .ok (.int i)) := d_c pe_int fun _ => .int _
theorem d_bl {i : Bool} {j : Nat} : PE X (.Constant (.bool i) j pos) (cV G ow 0 fun _ => .ok (.bool i)) := d_c pe_bl fun _ => .bl _
theorem d_non {j : Nat} : PE X (.Constant .none j pos) (cV G ow 0 fun _ => .ok .none) := d_c pe_non fun _ => .non
theorem d_str {i : Str} {j : Nat} : PE X (.Constant (.str i) j pos) (cV G ow 0 fun _ => .ok (.str i)) := d_c pe_str fun _ => .str _

/-! ### operations -/
@[simp] abbrev b1 {α : Type} (f : Env → Rs D) (F : D → Option α) : Env → Rs α := fun γ => (f γ).bind fun d => oR (F d)
@[simp] abbrev b2 {α : Type} (f g : Env → Rs D) (F : D → D → Option α) : Env → Rs α := fun γ => (f γ).bind fun d => (g γ).bind fun e => oR (F d e)
/-- what is asked of a two-place operation by values -/
structure HP (K : PySem.W.Frag) (r : R2) (P : D → D → D → Prop) : Prop where
  run : ∀ {B H : Hp} {x y : V} {d e z : D} {Q : VK}, Same B H → DnF K B H 1 x d → DnF K B H 1 y e → P d e z → (∀ v B' H', Ext B H B' H' → Dn K B' v z → Q v H') → r x y H Q
abbrev HR (K : PySem.W.Frag) (r : R2) (F : D → D → Option D) : Prop := HP K r fun d e z => F d e = some z
theorem d_op2 {r : R2} {F : D → D → Option D} (hr : HR G.K r F) (h : ∀ {ta tb : TE}, PE X a ta → PE X b tb → PE X e (tOp r ta tb)) (ha : PE X a (cV G ow 1 f)) (hb : PE X b (cV G ow 1 g)) : PE X e (cV G ow 0 (b2 f g F)) :=
  (h ha hb).impD fun σ H Q ⟨B, γ, I, q⟩ => ⟨B, γ, I, q.bind.imp fun d q v B1 H1 x1 hv => ⟨B1, γ, I.mono x1, q.bind.mono x1 fun e q u B2 H2 x2 hu => by
    obtain ⟨z, ez, q⟩ := q.oR
    exact hr.run x2.s (hv.mono x2) hu ez fun w B3 H3 x3 hw => q w B3 H3 ((x1.trans x2).trans x3) hw⟩⟩
theorem d_bin {op : Operator} {r : R2} {F : D → D → Option D} (hr : HR G.K r F) (ho : OpR X (binaryOp op) r) (ha : PE X a (cV G ow 1 f)) (hb : PE X b (cV G ow 1 g)) : PE X (.BinOp a op b pos) (cV G ow 0 (b2 f g F)) := d_op2 hr (fun h1 h2 => pe_op ho h1 h2) ha hb
theorem d_cmp {op : CmpOp} {r : R2} {F : D → D → Option D} (hr : HR G.K r F) (ho : OpR X (compareOp op) r) (hm : behindInMarks op b = false) (ha : PE X a (cV G ow 1 f)) (hb : PE X b (cV G ow 1 g)) : PE X (.Compare a [op] [b] pos) (cV G ow 0 (b2 f g F)) := d_op2 hr (fun h1 h2 => pe_cmpR ho h1 h2 hm) ha hb
theorem HP.or {K : PySem.W.Frag} {r1 r2 : R2} {P1 P2 : D → D → D → Prop} (h1 : HP K r1 P1) (h2 : HP K r2 P2) : HP K (fun x y H Q => r1 x y H Q ∨ r2 x y H Q) fun d e z => P1 d e z ∨ P2 d e z :=
  ⟨fun s hx hy hz q => hz.elim (fun hz => .inl (h1.run s hx hy hz q)) fun hz => .inr (h2.run s hx hy hz q)⟩
theorem HP.impP {K : PySem.W.Frag} {r : R2} {P P' : D → D → D → Prop} (h : HP K r P) (hi : ∀ d e z, P' d e z → P d e z) : HP K r P' := ⟨fun s hx hy hz q => h.run s hx hy (hi _ _ _ hz) q⟩

def iiD (C : Int → Int → Bool) (F : Int → Int → D) : D → D → Option D
  | .int i, .int j => if C i j then some (F i j) else none
  | _, _ => none
theorem iiD_some {C : Int → Int → Bool} {F : Int → Int → D} {d e z : D} (h : iiD C F d e = some z) : ∃ i j, d = .int i ∧ e = .int j ∧ C i j = true ∧ z = F i j := by
  unfold iiD at h
  split at h
  · rename_i i j
    split at h
    · rename_i hc
      cases h
      exact ⟨i, j, rfl, rfl, hc, rfl⟩
    · cases h
  · cases h
theorem hr_I {K : PySem.W.Frag} {C : Int → Int → Prop} {Cb : Int → Int → Bool} {g : Int → Int → V} {F : Int → Int → D} (hC : ∀ i j, Cb i j = true → C i j) (hg : ∀ B i j, Dn K B (g i j) (F i j)) : HR K (rI C g) (iiD Cb F) := by
  refine ⟨?_⟩; intro B H x y d e z Q s hx hy hz q
  obtain ⟨i, j, rfl, rfl, hc, rfl⟩ := iiD_some hz
  exact ⟨i, j, hx.int, hy.int, hC i j hc, q _ B H (.refl s) (hg B i j)⟩
theorem hr_I0 {K : PySem.W.Frag} {g : Int → Int → V} {F : Int → Int → D} (hg : ∀ B i j, Dn K B (g i j) (F i j)) : HR K (rI0 g) (iiD (fun _ _ => true) F) := by
  refine ⟨?_⟩; intro B H x y d e z Q s hx hy hz q
  obtain ⟨i, j, rfl, rfl, hc, rfl⟩ := iiD_some hz
  exact ⟨i, j, hx.int, hy.int, q _ B H (.refl s) (hg B i j)⟩

/-- the most items that a list, the most signs that a text has here -/
abbrev LIM : Nat := 1000000
theorem lim_le {n : Nat} (h : n ≤ LIM) : n ≤ sizeLine := Nat.le_trans h (by decide)
theorem lim_lt {n : Nat} (h : n < LIM) : n < sizeLine := Nat.lt_of_lt_of_le h (by decide)

/-! ### + -/
def rCatR : R2 := fun x y H Q => ∃ l b xs zs, x = .ref l ∧ y = .ref b ∧ Rd H l (.lst xs) ∧ Rd H b (.lst zs) ∧ xs.length + zs.length ≤ sizeLine ∧ ∀ p, H p = none → Q (.ref p) (upd H p (.lst (xs ++ zs)))
theorem Inv.rdM {pins : List (Addr × Obj)} {s : Shared} {σ : L2.St} {H : Hp} {l : Addr} {xs : List V} (I : Inv X pins σ H s) (h : Rd H l (.lst xs)) : xs.length ≤ sizeLine ∧ ∃ (its : List Value) (n : Nat), Vals xs its ∧ xs.length = its.length ∧ s.heap.get? l = some { cls := .type "list", data := .seq its.toArray n } := by
  obtain ⟨z, its, n, r, e⟩ := h.ok I.hok
  exact ⟨z, its, n, r, r.length, e⟩
theorem op_catR : OpR X (binaryOp .Add) rCatR := by
  intro pins s σ H x y v u Q I rx ry h
  obtain ⟨l, b, xs, zs, rfl, rfl, hH, hB, hz, q⟩ := h
  cases rx
  cases ry
  obtain ⟨z, its, n, r, hl, e⟩ := Inv.rdM I hH
  obtain ⟨z2, its2, n2, r2, hl2, e2⟩ := Inv.rdM I hB
  refine PySem.P.add_list e e2 ?_ (by rw [List.size_toArray, List.size_toArray]; omega)
  have ea : its.toArray ++ its2.toArray = (its ++ its2).toArray := by simp
  rw [ea]
  exact ⟨.ref _, _, I.lnew (t' := s.toks) (r.append r2) (by rw [List.length_append]; omega), rfl, q _ I.fresh⟩
def addI : D → D → Option D := iiD (fun _ _ => true) fun i j => .int (i + j)
def addS : D → D → Option D
  | .str x, .str y => if x.length + y.length ≤ LIM then some (.str (x ++ y)) else none
  | _, _ => none
def addL : D → D → Option D
  | .list xs, .list ys => if xs.length + ys.length ≤ LIM then some (.list (xs ++ ys)) else none
  | _, _ => none
def addT : D → D → Option D
  | .tuple xs, .tuple ys => if xs.length + ys.length ≤ LIM then some (.tuple (xs ++ ys)) else none
  | _, _ => none
def addB : D → D → Option D
  | .int i, .bool k => some (.int (i + b2i k))
  | _, _ => none
def addD : D → D → Option D
  | .int i, .int j => some (.int (i + j))
  | .int i, .bool k => some (.int (i + b2i k))
  | .str x, .str y => if x.length + y.length ≤ LIM then some (.str (x ++ y)) else none
  | .list xs, .list ys => if xs.length + ys.length ≤ LIM then some (.list (xs ++ ys)) else none
  | .tuple xs, .tuple ys => if xs.length + ys.length ≤ LIM then some (.tuple (xs ++ ys)) else none
  | _, _ => none
theorem addD_or {d e z : D} (h : addD d e = some z) : (addI d e = some z ∨ addB d e = some z) ∨ (addS d e = some z ∨ (addL d e = some z ∨ addT d e = some z)) := by
  unfold addD at h
  split at h
  · left; left; exact h
  · left; right; exact h
  · right; left; exact h
  · right; right; left; exact h
  · right; right; right; exact h
  · cases h
theorem hr_addS {K : PySem.W.Frag} : HR K (fun x y H Q => ∃ i j, x = .str i ∧ y = .str j ∧ i.length + j.length ≤ sizeLine ∧ Q (.str (i ++ j)) H) addS := by
  refine ⟨?_⟩; intro B H x y d e z Q s hx hy hz q
  unfold addS at hz
  split at hz
  · rename_i i j
    split at hz
    · rename_i hc
      cases hz
      exact ⟨i, j, hx.str, hy.str, lim_le hc, q _ B H (.refl s) (.str _)⟩
    · cases hz
  · cases hz
theorem hr_addB {K : PySem.W.Frag} : HR K (fun x y H Q => ∃ i k, x = .int i ∧ y = .bl k ∧ Q (.int (i + b2i k)) H) addB := by
  refine ⟨?_⟩; intro B H x y d e z Q s hx hy hz q
  unfold addB at hz
  split at hz
  · rename_i i j
    cases hz
    exact ⟨i, j, hx.int, hy.bool, q _ B H (.refl s) (.int _)⟩
  · cases hz
theorem paired_len {α β : Type} {F : α → β → Prop} {xs : List α} {ys : List β} (h : Paired F xs ys) : xs.length = ys.length := Paired.length h
theorem hr_addL {K : PySem.W.Frag} : HR K rCatR addL := by
  refine ⟨?_⟩; intro B H x y d e z Q s hx hy hz q
  unfold addL at hz
  split at hz
  · rename_i xs ys
    split at hz
    · rename_i hc
      cases hz
      obtain ⟨p, us, rfl, h1, h2⟩ := hx.items s
      obtain ⟨p', us', rfl, h1', h2'⟩ := hy.items s
      refine ⟨p, p', us, us', rfl, rfl, h1, h1', ?_, fun l hl => q _ (upd B l (.lst (us ++ us'))) _ (.new s hl) ?_⟩
      · rw [paired_len h2, paired_len h2']; exact lim_le hc
      · exact .lst (.inl upd_same) (((DnAll.of_paired h2).append (DnAll.of_paired h2')).mono (same_new (same_none s hl)))
    · cases hz
  · cases hz
theorem DnF.tupV {K : PySem.W.Frag} {B H : Hp} {v : V} {ds : List D} (h : DnF K B H 1 v (.tuple ds)) : Dn K B v (.tuple ds) := by
  rcases h with h | ⟨_, _, _, _, e, _⟩
  · exact h
  · cases e
theorem hr_addT {K : PySem.W.Frag} : HR K (rCatA K) addT := by
  refine ⟨?_⟩; intro B H x y d e z Q s hx hy hz q
  unfold addT at hz
  split at hz
  · rename_i xs ys
    split at hz
    · rename_i hc
      cases hz
      have hx' := hx.tupV
      have hy' := hy.tupV
      obtain ⟨p, us, rfl, h1, h2⟩ := hx.tups s
      obtain ⟨p', us', rfl, h1', h2'⟩ := hy.tups s
      refine ⟨p, p', us, us', rfl, rfl, h1, h1', ?_, fun e => ?_, fun _ e => ?_, fun _ _ l hl => q _ (upd B l (.tup (us ++ us'))) _ (.new s hl) ?_⟩
      · rw [h2.length, h2'.length]; exact lim_le hc
      · subst e
        cases h2
        exact q _ B H (.refl s) hy'
      · subst e
        cases h2'
        rw [List.append_nil] at q
        exact q _ B H (.refl s) hx'
      · exact .tup upd_same ((h2.append h2').mono (same_new (same_none s hl)))
    · cases hz
  · cases hz

theorem d_add (ha : PE X a (cV G ow 1 f)) (hb : PE X b (cV G ow 1 g)) (hK : X.K = G.K := by rfl) : PE X (.BinOp a .Add b pos) (cV G ow 0 (b2 f g addD)) :=
  d_bin (((HP.or (HP.or (hr_I0 (F := fun i j => .int (i + j)) fun _ _ _ => .int _) hr_addB) (HP.or hr_addS (HP.or hr_addL hr_addT)))).impP fun _ _ _ h => addD_or h)
    (OpR.or (OpR.or op_add op_add_ib) (OpR.or op_add_str (OpR.or op_catR (hK ▸ op_catA)))) ha hb
def subD : D → D → Option D := iiD (fun _ _ => true) fun i j => .int (i - j)
theorem d_sub (ha : PE X a (cV G ow 1 f)) (hb : PE X b (cV G ow 1 g)) : PE X (.BinOp a .Sub b pos) (cV G ow 0 (b2 f g subD)) := d_bin (hr_I0 fun _ _ _ => .int _) op_sub ha hb
def mulOk (i j : Int) : Bool := decide ((-18446744073709551616 < i ∧ i < 18446744073709551616) ∨ (-18446744073709551616 < j ∧ j < 18446744073709551616))
def mulD : D → D → Option D := iiD mulOk fun i j => .int (i * j)
theorem d_mul (ha : PE X a (cV G ow 1 f)) (hb : PE X b (cV G ow 1 g)) : PE X (.BinOp a .Mult b pos) (cV G ow 0 (b2 f g mulD)) := d_bin (hr_I (fun i j h => by
  have h := of_decide_eq_true h
  exact h) fun _ _ _ => .int _) op_mul ha hb
def mulWD : D → D → Option D := iiD (fun i j => decide (i.natAbs.log2 + j.natAbs.log2 < 1000000)) fun i j => .int (i * j)
theorem d_mulW (ha : PE X a (cV G ow 1 f)) (hb : PE X b (cV G ow 1 g)) : PE X (.BinOp a .Mult b pos) (cV G ow 0 (b2 f g mulWD)) := d_bin (hr_I (fun i j h => of_decide_eq_true h) fun _ _ _ => .int _) op_mulW ha hb
def fdivD : D → D → Option D := iiD (fun _ j => decide (0 < j ∧ j < 18446744073709551616)) fun i j => .int (i / j)
theorem log2_64 {j : Int} (h0 : 0 < j) (h : j < 18446744073709551616) : j.natAbs.log2 < 9000 := by
  have h1 : j.natAbs < 2 ^ 64 := by omega
  have h2 : j.natAbs ≠ 0 := by omega
  have := (Nat.log2_lt h2).mpr h1
  omega
theorem d_fdiv (ha : PE X a (cV G ow 1 f)) (hb : PE X b (cV G ow 1 g)) : PE X (.BinOp a .FloorDiv b pos) (cV G ow 0 (b2 f g fdivD)) := d_bin (hr_I (fun i j h => by
  have h := of_decide_eq_true h
  exact ⟨h.1, log2_64 h.1 h.2⟩) fun _ _ _ => .int _) op_fdivW ha hb
def fdivWD : D → D → Option D := iiD (fun _ j => decide (0 < j ∧ j.natAbs.log2 < 9000)) fun i j => .int (i / j)
theorem d_fdivW (ha : PE X a (cV G ow 1 f)) (hb : PE X b (cV G ow 1 g)) : PE X (.BinOp a .FloorDiv b pos) (cV G ow 0 (b2 f g fdivWD)) := d_bin (hr_I (fun i j h => of_decide_eq_true h) fun _ _ _ => .int _) op_fdivW ha hb
def modD : D → D → Option D := iiD (fun _ j => decide (0 < j)) fun i j => .int (i % j)
theorem d_mod (ha : PE X a (cV G ow 1 f)) (hb : PE X b (cV G ow 1 g)) : PE X (.BinOp a .Mod b pos) (cV G ow 0 (b2 f g modD)) := d_bin (hr_I (fun i j h => of_decide_eq_true h) fun _ _ _ => .int _) op_mod ha hb
def powOk (i j : Int) : Bool := decide (0 ≤ j ∧ j ≤ 1000000 ∧ i.natAbs < 18446744073709551616)
def powD : D → D → Option D := iiD powOk fun i j => .int (i ^ j.toNat)
theorem d_pow (ha : PE X a (cV G ow 1 f)) (hb : PE X b (cV G ow 1 g)) : PE X (.BinOp a .Pow b pos) (cV G ow 0 (b2 f g powD)) := d_bin (hr_I (fun i j h => by
  have h := of_decide_eq_true h
  exact h) fun _ _ _ => .int _) op_pow ha hb
def shlD : D → D → Option D := iiD powOk fun i j => .int (i * 2 ^ j.toNat)
theorem d_shl (ha : PE X a (cV G ow 1 f)) (hb : PE X b (cV G ow 1 g)) : PE X (.BinOp a .LShift b pos) (cV G ow 0 (b2 f g shlD)) := d_bin (hr_I (fun i j h => by
  have h := of_decide_eq_true h
  exact h) fun _ _ _ => .int _) op_shl ha hb
/-! ### comparisons -/
def ltD : D → D → Option D := iiD (fun _ _ => true) fun i j => .bool (decide (i < j))
def leD : D → D → Option D := iiD (fun _ _ => true) fun i j => .bool (decide (i ≤ j))
def gtD : D → D → Option D := iiD (fun _ _ => true) fun i j => .bool (decide (j < i))
def geD : D → D → Option D := iiD (fun _ _ => true) fun i j => .bool (decide (j ≤ i))
theorem d_lt (ha : PE X a (cV G ow 1 f)) (hb : PE X b (cV G ow 1 g)) : PE X (.Compare a [.Lt] [b] pos) (cV G ow 0 (b2 f g ltD)) := d_cmp (hr_I0 fun _ _ _ => .bl _) op_lt (nomark _) ha hb
theorem d_le (ha : PE X a (cV G ow 1 f)) (hb : PE X b (cV G ow 1 g)) : PE X (.Compare a [.LtE] [b] pos) (cV G ow 0 (b2 f g leD)) := d_cmp (hr_I0 fun _ _ _ => .bl _) op_le (nomark _) ha hb
theorem d_gt (ha : PE X a (cV G ow 1 f)) (hb : PE X b (cV G ow 1 g)) : PE X (.Compare a [.Gt] [b] pos) (cV G ow 0 (b2 f g gtD)) := d_cmp (hr_I0 fun _ _ _ => .bl _) op_gt (nomark _) ha hb
theorem d_ge (ha : PE X a (cV G ow 1 f)) (hb : PE X b (cV G ow 1 g)) : PE X (.Compare a [.GtE] [b] pos) (cV G ow 0 (b2 f g geD)) := d_cmp (hr_I0 fun _ _ _ => .bl _) op_ge (nomark _) ha hb
def eqD (d e : D) : Option D := if SeqAt.shaped d = true ∧ SeqAt.shaped e = true then some (.bool (PyData.eqv d e)) else none
def neD (d e : D) : Option D := if SeqAt.shaped d = true ∧ SeqAt.shaped e = true then some (.bool (!PyData.eqv d e)) else none
theorem hr_eq {K : PySem.W.Frag} : HR K (rEqD K) eqD := by
  refine ⟨?_⟩; intro B H x y d e z Q s hx hy hz q
  unfold eqD at hz
  split at hz
  · rename_i hc
    cases hz
    exact ⟨d, e, (hx.flu s).dp (SeqAt.canLay_of_shaped hc.1), (hy.flu s).dp (SeqAt.canLay_of_shaped hc.2), hc.1, hc.2, q _ B H (.refl s) (.bl _)⟩
  · cases hz
theorem hr_ne {K : PySem.W.Frag} : HR K (rNeD K) neD := by
  refine ⟨?_⟩; intro B H x y d e z Q s hx hy hz q
  unfold neD at hz
  split at hz
  · rename_i hc
    cases hz
    exact ⟨d, e, (hx.flu s).dp (SeqAt.canLay_of_shaped hc.1), (hy.flu s).dp (SeqAt.canLay_of_shaped hc.2), hc.1, hc.2, q _ B H (.refl s) (.bl _)⟩
  · cases hz
theorem d_eq {n : Nat} (hr : Room n X.A) (ha : PE X a (cV G ow 1 f)) (hb : PE X b (cV G ow 1 g)) (hK : X.K = G.K := by rfl) : PE X (.Compare a [.Eq] [b] pos) (cV G ow 0 (b2 f g eqD)) := d_cmp hr_eq (hK ▸ op_eqD hr.units) (nomark _) ha hb
theorem d_ne {n : Nat} (hr : Room n X.A) (ha : PE X a (cV G ow 1 f)) (hb : PE X b (cV G ow 1 g)) (hK : X.K = G.K := by rfl) : PE X (.Compare a [.NotEq] [b] pos) (cV G ow 0 (b2 f g neD)) := d_cmp hr_ne (hK ▸ op_neD hr.units) (nomark _) ha hb
/-- x in a list, flat or deep; in a tuple of flat things -/
def flatD : D → Bool
  | .none => true
  | .bool _ => true
  | .int _ => true
  | .str _ => true
  | _ => false
theorem flat_dn {K : PySem.W.Frag} {H : Hp} {v : V} {d : D} (h : Dn K H v d) (e : flatD d = true) : flatV v = true := by
  cases h <;> first | rfl | cases e
theorem flat_eqv {K : PySem.W.Frag} {H : Hp} {v u : V} {d e : D} (h : Dn K H v d) (h' : Dn K H u e) (f : flatD d = true) (f' : flatD e = true) : eqV v u = PyData.eqv d e := by
  cases h <;> (first | cases f | skip) <;> cases h' <;> (first | cases f' | skip) <;> rfl
theorem flat_all {K : PySem.W.Frag} {H : Hp} : ∀ {vs : List V} {ds : List D}, DnAll K H vs ds → ds.all flatD = true → vs.all flatV = true
  | _, _, .nil, _ => rfl
  | _, _, .cons h t, f => by
    rw [List.all_cons, Bool.and_eq_true] at f
    rw [List.all_cons, flat_dn h f.1, flat_all t f.2]
    rfl
theorem flat_in {K : PySem.W.Frag} {H : Hp} {v : V} {d : D} (h : Dn K H v d) (f : flatD d = true) : ∀ {vs : List V} {ds : List D}, DnAll K H vs ds → ds.all flatD = true → inV v vs = ds.any fun z => PyData.eqv z d
  | _, _, .nil, _ => rfl
  | _, _, .cons (v := u) (vs := us) h' t, g => by
    rw [List.all_cons, Bool.and_eq_true] at g
    show (u :: us).any _ = _
    rw [List.any_cons, List.any_cons, flat_eqv h' h g.1 f]
    exact congrArg _ (flat_in h f t g.2)
def inD (neg : Bool) (d : D) : D → Option D
  | .list ds => if SeqAt.shaped d = true ∧ SeqAt.shaped (.list ds) = true then some (.bool (neg != ds.any fun z => PyData.eqv z d)) else none
  | .tuple ds => if flatD d = true ∧ ds.all flatD = true then some (.bool (neg != ds.any fun z => PyData.eqv z d)) else none
  | _ => none
def rIn2 (K : PySem.W.Frag) (neg : Bool) : R2 := fun x y H Q => rIn K neg x y H Q ∨ (if neg then rNotInD K else rInD K) x y H Q
theorem hr_in {K : PySem.W.Frag} {neg : Bool} : HR K (rIn2 K neg) (inD neg) := by
  refine ⟨?_⟩; intro B H x y d e z Q s hx hy hz q
  unfold inD at hz
  split at hz
  · rename_i ds
    split at hz
    · rename_i hc
      cases hz
      have h1 := (hx.flu s).dp (SeqAt.canLay_of_shaped hc.1)
      have h2 := (hy.flu s).dp (SeqAt.canLay_of_shaped hc.2)
      right
      cases neg with
      | true => exact ⟨d, ds, h1, h2, hc.1, hc.2, q _ B H (.refl s) (by rw [Bool.true_bne]; exact .bl _)⟩
      | false => exact ⟨d, ds, h1, h2, hc.1, hc.2, q _ B H (.refl s) (by rw [Bool.false_bne]; exact .bl _)⟩
    · cases hz
  · rename_i ds
    split at hz
    · rename_i hc
      cases hz
      left
      obtain ⟨p, us, rfl, h1, h2⟩ := hy.tups s
      have hx' := hx.flu s
      have h2' := h2.mono s
      refine ⟨p, us, rfl, .inr h1, flat_dn hx' hc.1, flat_all h2' hc.2, q _ B H (.refl s) ?_⟩
      rw [flat_in hx' hc.1 h2' hc.2]
      cases neg with
      | true => rw [Bool.true_bne, if_pos rfl]; exact .bl _
      | false => rw [Bool.false_bne, if_neg (by decide)]; exact .bl _
    · cases hz
  · cases hz
theorem d_in {n : Nat} (hr : Room n X.A) (ha : PE X a (cV G ow 1 f)) (hb : PE X b (cV G ow 1 g)) (hm : behindInMarks .In b = false := by rfl) (hK : X.K = G.K := by rfl) : PE X (.Compare a [.In] [b] pos) (cV G ow 0 (b2 f g (inD false))) :=
  d_cmp (r := rIn2 G.K false) hr_in (hK ▸ OpR.or op_in_seq (op_inD (by have := hr.un; omega))) hm ha hb
theorem d_notin {n : Nat} (hr : Room n X.A) (ha : PE X a (cV G ow 1 f)) (hb : PE X b (cV G ow 1 g)) (hm : behindInMarks .NotIn b = false := by rfl) (hK : X.K = G.K := by rfl) : PE X (.Compare a [.NotIn] [b] pos) (cV G ow 0 (b2 f g (inD true))) :=
  d_cmp (r := rIn2 G.K true) hr_in (hK ▸ OpR.or op_notIn_seq (op_notInD (by have := hr.un; omega))) hm ha hb
def isNoneD : D → Bool
  | .none => true
  | _ => false
theorem dn_non {K : PySem.W.Frag} {H : Hp} {v : V} {d : D} (h : Dn K H v d) : decide (v = V.non) = isNoneD d := by
  cases h <;> rfl
theorem d_isN {j : Nat} {p2 : Pos} (ha : PE X a (cV G ow 1 f)) : PE X (.Compare a [.Is] [.Constant .none j p2] pos) (cV G ow 0 (b1 f fun d => some (.bool (isNoneD d)))) := (pe_cmp (pc_isN ha) rfl).impD fun σ H Q ⟨B, γ, I, q⟩ => ⟨B, γ, I, q.bind.imp fun d q v B1 H1 x1 hv => by
  show Q (V.bl (decide (v = V.non))) H1
  rw [dn_non (hv.flu x1.s)]
  exact q _ B1 H1 x1 (.bl _)⟩
theorem d_notN {j : Nat} {p2 : Pos} (ha : PE X a (cV G ow 1 f)) : PE X (.Compare a [.IsNot] [.Constant .none j p2] pos) (cV G ow 0 (b1 f fun d => some (.bool (!isNoneD d)))) := (pe_cmp (pc_notN ha) rfl).impD fun σ H Q ⟨B, γ, I, q⟩ => ⟨B, γ, I, q.bind.imp fun d q v B1 H1 x1 hv => by
  show Q (V.bl (!decide (v = V.non))) H1
  rw [dn_non (hv.flu x1.s)]
  exact q _ B1 H1 x1 (.bl _)⟩
def isB (neg : Bool) : D → D → Option D
  | .bool i, .bool j => some (.bool (neg != decide (i = j)))
  | _, _ => none
theorem d_isB (ha : PE X a (cV G ow 1 f)) (hb : PE X b (cV G ow 1 g)) : PE X (.Compare a [.Is] [b] pos) (cV G ow 0 (b2 f g (isB false))) := d_cmp (by
  refine ⟨?_⟩; intro B H x y d e z Q s hx hy hz q
  unfold isB at hz
  split at hz
  · cases hz
    exact ⟨_, _, hx.bool, hy.bool, q _ B H (.refl s) (by rw [Bool.false_bne]; exact .bl _)⟩
  · cases hz) op_is_bl (nomark _) ha hb
theorem d_isnotB (ha : PE X a (cV G ow 1 f)) (hb : PE X b (cV G ow 1 g)) : PE X (.Compare a [.IsNot] [b] pos) (cV G ow 0 (b2 f g (isB true))) := d_cmp (by
  refine ⟨?_⟩; intro B H x y d e z Q s hx hy hz q
  unfold isB at hz
  split at hz
  · cases hz
    exact ⟨_, _, hx.bool, hy.bool, q _ B H (.refl s) (by rw [Bool.true_bne]; exact .bl _)⟩
  · cases hz) op_isnot_bl (nomark _) ha hb
/-- a op b op c of ints -/
def chainD (p q : D → D → Option D) (d e : D) (z : Rs D) : Rs D := (oR (p d e)).bind fun r => match r with
  | .bool true => z.bind fun c => oR (q e c)
  | .bool false => .ok (.bool false)
  | _ => .no
theorem d_chain {op op' : CmpOp} {r r' : R2} {F F' : D → D → Option D} {c : Expr} {h : Env → Rs D} (hF : HR G.K r F) (hF' : HR G.K r' F') (ho : OpR X (compareOp op) r) (ho' : OpR X (compareOp op') r') (ha : PE X a (cV G ow 1 f)) (hb : PE X b (cV G ow 1 g)) (hc : PE X c (cV G ow 1 h))
    (hm : lastMarks [op, op'] [b, c] = false := by with_unfolding_all rfl) : PE X (.Compare a [op, op'] [b, c] pos) (cV G ow 0 fun γ => (f γ).bind fun d => (g γ).bind fun e => chainD F F' d e (h γ)) :=
  (pe_chain ho ho' ha hb hc hm).impD fun σ H Q ⟨B, γ, I, q⟩ => ⟨B, γ, I, q.bind.imp fun d q v B1 H1 x1 hv => ⟨B1, γ, I.mono x1, q.bind.mono x1 fun e q u B2 H2 x2 hu => by
    unfold chainD at q
    obtain ⟨z, ez, q⟩ := q.bind.oR
    refine hF.run x2.s (hv.mono x2) hu ez fun w B3 H3 x3 hw => ?_
    cases z with
    | bool k =>
      cases hw
      refine ⟨k, rfl, ?_⟩
      cases k with
      | true =>
        rw [if_pos rfl]
        refine ⟨B3, γ, I.mono ((x1.trans x2).trans x3), RsP.mono ((x1.trans x2).trans x3) (show RsP G σ B H ((h γ).bind fun c => oR (F' e c)) _ from q).bind fun c q w' B4 H4 x4 hw' => ?_⟩
        obtain ⟨z', ez', q⟩ := q.oR
        exact hF'.run x4.s ((hu.mono x3).mono x4) hw' ez' fun w5 B5 H5 x5 hw5 => q w5 B5 H5 ((((x1.trans x2).trans x3).trans x4).trans x5) hw5
      | false =>
        rw [if_neg (by decide)]
        exact q _ B3 H3 ((x1.trans x2).trans x3) (.bl _)
    | none => exact q.elim
    | int _ => exact q.elim
    | str _ => exact q.elim
    | list _ => exact q.elim
    | tuple _ => exact q.elim
    | dict _ => exact q.elim⟩⟩
theorem hr_lt {K : PySem.W.Frag} : HR K (rI0 fun i j => .bl (decide (i < j))) ltD := hr_I0 fun _ _ _ => .bl _
theorem hr_le {K : PySem.W.Frag} : HR K (rI0 fun i j => .bl (decide (i ≤ j))) leD := hr_I0 fun _ _ _ => .bl _
theorem hr_gt {K : PySem.W.Frag} : HR K (rI0 fun i j => .bl (decide (j < i))) gtD := hr_I0 fun _ _ _ => .bl _
theorem hr_ge {K : PySem.W.Frag} : HR K (rI0 fun i j => .bl (decide (j ≤ i))) geD := hr_I0 fun _ _ _ => .bl _

/-! ### one-place -/
def negD : D → Option D
  | .int i => some (.int (-i))
  | _ => none
theorem d_neg (ha : PE X a (cV G ow 1 f)) : PE X (.UnaryOp .USub a pos) (cV G ow 0 (b1 f negD)) := (pe_un un_neg ha).impD fun σ H Q ⟨B, γ, I, q⟩ => ⟨B, γ, I, q.bind.imp fun d q v B1 H1 x1 hv => by
  obtain ⟨z, ez, q⟩ := q.oR
  unfold negD at ez
  split at ez
  · cases ez
    exact ⟨_, hv.int, q _ B1 H1 x1 (Dn.int _)⟩
  · cases ez⟩

/-! ### places -/
def ixD : D → D → Option D
  | .list ds, .int i => atI ds i
  | .dict [(.none, .list ds)], .int i => atI ds i
  | .tuple ds, .int i => atI ds i
  | .str z, .int i => if z.length ≤ LIM then (atI z.cps.toList i).map fun c => .str ⟨#[c]⟩ else none
  | _, _ => none
theorem atI_len {α β : Type} {F : α → β → Prop} {xs : List α} {ys : List β} {i : Int} {y : β} (h : Paired F xs ys) (e : atI ys i = some y) : ∃ x, atI xs i = some x ∧ F x y := by
  unfold atI at e ⊢
  rw [paired_len h]
  cases hj : ixN ys.length i with
  | none => rw [hj] at e; cases e
  | some j =>
    rw [hj] at e
    show ∃ x, xs[j]? = some x ∧ F x y
    replace e : ys[j]? = some y := e
    clear hj
    induction h generalizing j with
    | nil => simp at e
    | cons r t ih =>
      cases j with
      | zero => simp at e; subst e; exact ⟨_, rfl, r⟩
      | succ j => exact ih j (by simpa using e)
theorem hr_ix {K : PySem.W.Frag} : HR K (rIx K) ixD := by
  refine ⟨?_⟩; intro B H x y d e z Q s hx hy hz q
  unfold ixD at hz
  split at hz
  · rename_i ds i
    obtain ⟨p, us, rfl, h1, h2⟩ := hx.items s
    obtain ⟨v, e1, e2⟩ := atI_len h2 hz
    exact .inl ⟨p, us, i, v, rfl, hy.int, .inl h1, e1, q _ B H (.refl s) e2⟩
  · rename_i ds i
    obtain ⟨p, us, rfl, _, h1, h2⟩ := hx.rol s
    obtain ⟨v, e1, e2⟩ := atI_len h2.paired hz
    exact .inl ⟨p, us, i, v, rfl, hy.int, h1, e1, q _ B H (.refl s) e2⟩
  · rename_i ds i
    obtain ⟨p, us, rfl, h1, h2⟩ := hx.tups s
    obtain ⟨v, e1, e2⟩ := atI_len h2.paired hz
    exact .inr (.inl ⟨p, us, i, v, rfl, hy.int, h1, e1, q _ B H (.refl s) e2⟩)
  · rename_i t i
    split at hz
    · rename_i hc
      cases ha : atI t.cps.toList i with
      | none => rw [ha] at hz; cases hz
      | some c =>
        rw [ha] at hz
        cases hz
        exact .inr (.inr ⟨t, i, c, hx.str, hy.int, lim_le hc, ha, q _ B H (.refl s) (.str _)⟩)
    · cases hz
  · cases hz
theorem d_ix (ha : PE X a (cV G ow 1 f)) (hb : PE X b (cV G ow 1 g)) (hs : PlainIx b := by intro _ _; rfl) (hK : X.K = G.K := by rfl) : PE X (.Subscript a b pos) (cV G ow 0 (b2 f g ixD)) := d_op2 hr_ix (fun h1 h2 => pe_ix (hK ▸ ix_seq) h1 h2 hs) ha hb

/-! ### arguments, displays -/
theorem a_nil : PA X [] (cA G ow k fun _ => .ok []) := pa_nil.impD fun σ H Q ⟨B, γ, I, q⟩ => q [] B H (.refl I.s) .nil
theorem a_cons {es : List Expr} {fs : Env → Rs (List D)} (ha : PE X a (cV G ow k f)) (hr : PA X es (cA G ow k fs)) (hs : starEach (a :: es) X.env = (false, eval a X.env) :: starEach es X.env := by rfl) :
    PA X (a :: es) (cA G ow k fun γ => (f γ).bind fun d => (fs γ).map fun ds => d :: ds) := (pa_cons ha hr hs).impD fun σ H Q ⟨B, γ, I, q⟩ => ⟨B, γ, I, q.bind.imp fun d q v B1 H1 x1 hv => ⟨B1, γ, I.mono x1, q.map.mono x1 fun ds q vs B2 H2 x2 hvs =>
      q (v :: vs) B2 H2 (x1.trans x2) (.cons (hv.mono x2) hvs)⟩⟩
def szL (ds : List D) : Option (List D) := if ds.length ≤ LIM then some ds else none
def szT (ds : List D) : Option D := if ds.length ≤ LIM then some (.tuple ds) else none
theorem szL_some {ds es : List D} (h : szL ds = some es) : ds.length ≤ LIM ∧ es = ds := by
  unfold szL at h
  split at h
  · rename_i hc; cases h; exact ⟨hc, rfl⟩
  · cases h
theorem n_lst {es : List Expr} {fs : Env → Rs (List D)} (h : PA X es (cA G ow 0 fs)) : PE X (.List es pos) (cN G ow fun γ => (fs γ).bind fun ds => oR (szL ds)) := (pe_lst h).impD fun σ H Q ⟨B, γ, I, q⟩ => ⟨B, γ, I, q.bind.imp fun ds q vs B1 H1 x1 hvs => by
  obtain ⟨z, ez, q9⟩ := q.oR
  obtain ⟨hl, e9⟩ := szL_some ez
  subst e9
  have hd : DnAll G.K B1 vs z := .of_paired hvs
  exact ⟨by rw [hd.length]; exact lim_le hl, fun p hp => q9 p vs B1 _ (x1.trans (.hid x1.s hp)) (x1.h.free hp) (same_none x1.s hp) upd_same hd⟩⟩
theorem d_tup {es : List Expr} {fs : Env → Rs (List D)} {kk : Nat} (h : PA X es (cA G ow 0 fs)) : PE X (.Tuple es kk pos) (cV G ow 0 fun γ => (fs γ).bind fun ds => oR (szT ds)) := (pe_tup h).impD fun σ H Q ⟨B, γ, I, q⟩ => ⟨B, γ, I, q.bind.imp fun ds q vs B1 H1 x1 hvs => by
  obtain ⟨z, ez, q⟩ := q.oR
  unfold szT at ez
  split at ez
  · rename_i hl
    cases ez
    have hd : DnAll G.K B1 vs ds := .of_paired hvs
    exact ⟨by rw [hd.length]; exact lim_le hl, fun p hp => q (.ref p) _ _ (x1.trans (.new x1.s hp)) (.tup upd_same (hd.mono (same_new (same_none x1.s hp))))⟩
  · cases ez⟩
/-! ### slices -/
theorem o_none : PO X none (cO G ow fun _ => .ok none) := po_none.impD fun σ H Q ⟨B, γ, I, q⟩ => q B H (.refl I.s)
def intO : D → Option (Option Int)
  | .int i => some (some i)
  | _ => none
theorem o_some (ha : PE X a (cV G ow 1 f)) : PO X (some a) (cO G ow fun γ => (f γ).bind fun d => oR (intO d)) := (po_some ha).impD fun σ H Q ⟨B, γ, I, q⟩ => ⟨B, γ, I, q.bind.imp fun d q v B1 H1 x1 hv => by
  obtain ⟨z, ez, q⟩ := q.oR
  unfold intO at ez
  split at ez
  · cases ez
    exact ⟨_, hv.int, q B1 H1 x1⟩
  · cases ez⟩
def cutD (ds : List D) (lo hi : Option Int) : List D := (ds.drop (HT.sIx ds.length 0 lo)).take (HT.sIx ds.length ds.length hi - HT.sIx ds.length 0 lo)
theorem cut_all {K : PySem.W.Frag} {H : Hp} {xs : List V} {ds : List D} (h : DnAll K H xs ds) (lo hi : Option Int) : DnAll K H (cutV xs lo hi) (cutD ds lo hi) := by
  unfold cutV cutD
  rw [h.length]
  exact (h.drop _).take _
def cutLD (lo hi : Option Int) : D → Option (List D)
  | .list ds => some (cutD ds lo hi)
  | .dict [(.none, .list ds)] => some (cutD ds lo hi)
  | _ => none
theorem n_slice {lo hi : Option Expr} {fl fh : Env → Rs (Option Int)} {p2 : Pos} (ha : PE X a (cV G ow 1 f)) (hl : PO X lo (cO G ow fl)) (hh : PO X hi (cO G ow fh)) (hK : X.K = G.K := by rfl) :
    PE X (.Subscript a (.Slice lo hi none p2) pos) (cN G ow fun γ => (f γ).bind fun d => (fl γ).bind fun l => (fh γ).bind fun h => oR (cutLD l h d)) :=
  (pe_slice (hK ▸ sl_list) ha hl hh).impD fun σ H Q ⟨B, γ, I, q⟩ => ⟨B, γ, I, q.bind.imp fun d q1 v B1 H1 x1 hv => ⟨B1, γ, I.mono x1, q1.bind.mono x1 fun l q2 B2 H2 x2 => ⟨B2, γ, I.mono (x1.trans x2), q2.bind.mono (x1.trans x2) fun u q3 B3 H3 x3 => by
    obtain ⟨z, ez, q9⟩ := q3.oR
    unfold cutLD at ez
    split at ez
    · rename_i ds
      cases ez
      have x23 := x2.trans x3
      obtain ⟨p, us, rfl, h1, h2⟩ := (hv.mono x23).items x23.s
      refine ⟨p, us, rfl, .inl h1, fun r hr => q9 r _ B3 _ ((x1.trans x23).trans (.hid x23.s hr)) ((x1.trans x23).h.free hr) (same_none x23.s hr) upd_same (cut_all (.of_paired h2) l u)⟩
    · rename_i ds
      cases ez
      have x23 := x2.trans x3
      obtain ⟨p, us, rfl, _, h1, h2⟩ := DnF.rol x23.s (hv.mono x23)
      exact ⟨p, us, rfl, h1, fun r hr => q9 r _ B3 _ ((x1.trans x23).trans (.hid x23.s hr)) ((x1.trans x23).h.free hr) (same_none x23.s hr) upd_same (cut_all h2 l u)⟩
    · cases ez⟩⟩⟩
/-- a slice of a tuple that isn't the whole, of a text -/
def cutTD (lo hi : Option Int) : D → Option D
  | .tuple ds => if ¬ (HT.sIx ds.length 0 lo = 0 ∧ HT.sIx ds.length ds.length hi = ds.length) then some (.tuple (cutD ds lo hi)) else none
  | .str z => if z.length ≤ LIM then some (.str (cutS z lo hi)) else none
  | _ => none
theorem d_slice {lo hi : Option Expr} {fl fh : Env → Rs (Option Int)} {p2 : Pos} (ha : PE X a (cV G ow 1 f)) (hl : PO X lo (cO G ow fl)) (hh : PO X hi (cO G ow fh)) (hK : X.K = G.K := by rfl) :
    PE X (.Subscript a (.Slice lo hi none p2) pos) (cV G ow 0 fun γ => (f γ).bind fun d => (fl γ).bind fun l => (fh γ).bind fun h => oR (cutTD l h d)) :=
  (pe_slice (SlR.or (hK ▸ sl_tup) sl_str) ha hl hh).impD fun σ H Q ⟨B, γ, I, q⟩ => ⟨B, γ, I, q.bind.imp fun d q1 v B1 H1 x1 hv => ⟨B1, γ, I.mono x1, q1.bind.mono x1 fun l q2 B2 H2 x2 => ⟨B2, γ, I.mono (x1.trans x2), q2.bind.mono (x1.trans x2) fun u q3 B3 H3 x3 => by
    obtain ⟨z, ez, q⟩ := q3.oR
    have x23 := x2.trans x3
    unfold cutTD at ez
    split at ez
    · rename_i ds
      split at ez
      · rename_i hc
        cases ez
        obtain ⟨p, us, rfl, h1, h2⟩ := (hv.mono x23).tups x23.s
        refine .inl ⟨p, us, rfl, h1, by rw [h2.length]; exact hc, fun r hr => q (.ref r) _ _ ((x1.trans x23).trans (.new x23.s hr)) (.tup upd_same ((cut_all h2 l u).mono (same_new (same_none x23.s hr))))⟩
      · cases ez
    · rename_i t
      split at ez
      · rename_i hc
        cases ez
        exact .inr ⟨t, (hv.mono x23).str, lim_le hc, q _ B3 H3 (x1.trans x23) (Dn.str _)⟩
      · cases ez
    · cases ez⟩⟩⟩
/-- a + b of lists, where the new list stays one's own -/
def catD : D → D → Option (List D)
  | .list xs, .list ys => if xs.length + ys.length ≤ LIM then some (xs ++ ys) else none
  | _, _ => none
theorem n_cat (ha : PE X a (cV G ow 1 f)) (hb : PE X b (cV G ow 1 g)) : PE X (.BinOp a .Add b pos) (cN G ow fun γ => (f γ).bind fun d => (g γ).bind fun e => oR (catD d e)) :=
  (pe_op op_catR ha hb).impD fun σ H Q ⟨B, γ, I, q⟩ => ⟨B, γ, I, q.bind.imp fun d q v B1 H1 x1 hv => ⟨B1, γ, I.mono x1, q.bind.mono x1 fun e q u B2 H2 x2 hu => by
    obtain ⟨z, ez, q⟩ := q.oR
    unfold catD at ez
    split at ez
    · rename_i xs ys
      split at ez
      · rename_i hc
        cases ez
        obtain ⟨p, us, rfl, h1, h2⟩ := (hv.mono x2).items x2.s
        obtain ⟨p', us', rfl, h1', h2'⟩ := hu.items x2.s
        refine ⟨p, p', us, us', rfl, rfl, h1, h1', ?_, fun r hr => q r _ B2 _ ((x1.trans x2).trans (.hid x2.s hr)) ((x1.trans x2).h.free hr) (same_none x2.s hr) upd_same ((DnAll.of_paired h2).append (DnAll.of_paired h2'))⟩
        rw [paired_len h2, paired_len h2']
        exact lim_le hc
      · cases ez
    · cases ez⟩⟩
/-- a display times an int -/
def repD (ds : List D) : D → Option (List D)
  | .int k => if k ≤ LIM ∧ -LIM ≤ k ∧ ds.length * k.toNat ≤ LIM then some (List.replicate k.toNat ds).flatten else none
  | _ => none
theorem n_rep {fs : Env → Rs (List D)} (ha : PE X a (cN G ow fs)) (hb : PE X b (cV G ow 1 g)) : PE X (.BinOp a .Mult b pos) (cN G ow fun γ => (fs γ).bind fun ds => (g γ).bind fun e => oR (repD ds e)) :=
  (pe_op op_rep ha hb).impD fun σ H Q ⟨B, γ, I, q⟩ => ⟨B, γ, I, q.bind.imp fun ds q p xs B1 H1 x1 hp hb hl hd => ⟨B1, γ, I.mono x1, q.bind.mono x1 fun e q u B2 H2 x2 hu => by
    obtain ⟨z, ez, q⟩ := q.oR
    unfold repD at ez
    split at ez
    · rename_i k
      split at ez
      · rename_i hc
        obtain ⟨c1, c2, c3⟩ := hc
        cases ez
        refine ⟨p, k, xs, rfl, hu.int, x2.h _ _ hl, ?_, ?_, ?_, fun r hr => q r _ B2 _ ((x1.trans x2).trans (.hid x2.s hr)) ((x1.trans x2).h.free hr) (same_none x2.s hr) upd_same ((hd.mono x2.b).rep _)⟩
        · exact Int.le_trans (by decide) c2
        · exact Int.lt_of_le_of_lt c1 (by decide)
        · rw [hd.length]; exact lim_le c3
      · cases ez
    · cases ez⟩⟩

/-! ### tests -/
def truD : D → Option Bool
  | .none => some false
  | .bool b => some b
  | .int i => some (i != 0)
  | .str z => if z.length ≤ LIM then some ((z.length : Int) != 0) else none
  | .list ds => some !ds.isEmpty
  | .tuple ds => some !ds.isEmpty
  | .dict es => none
theorem isE {K : PySem.W.Frag} {H : Hp} {xs : List V} {ds : List D} (h : DnAll K H xs ds) : (!xs.isEmpty) = !ds.isEmpty := by cases h <;> rfl
theorem t_truth (ha : PE X a (cV G ow 1 f)) (he : ∀ whole, isTrue a X.env whole = (do let v ← whole; standAt a.pos; holding [v] (truthy v)) := by intro _; rfl) (hK : X.K = G.K := by rfl) : PT X a (cT G ow fun γ => (f γ).bind fun d => oR (truD d)) :=
  (pt_truth ha he).impD fun σ H Q ⟨B, γ, I, q⟩ => ⟨B, γ, I, q.bind.imp fun d q v B1 H1 x1 hv => by
    obtain ⟨z, ez, q⟩ := q.oR
    rw [hK]
    refine ⟨z, ?_, q B1 H1 x1⟩
    cases d with
    | none => cases ez; rw [hv.none]; rfl
    | bool b => cases ez; rw [hv.bool]; rfl
    | int i => cases ez; rw [hv.int]; rfl
    | str t =>
      unfold truD at ez
      dsimp only at ez
      split at ez
      · rename_i hc
        cases ez
        rw [hv.str]
        exact ⟨lim_le hc, rfl⟩
      · cases ez
    | list ds =>
      cases ez
      obtain ⟨p, us, rfl, h1, h2⟩ := hv.items x1.s
      exact .inl ⟨us, .inl h1, (isE (.of_paired h2)).symm⟩
    | tuple ds =>
      cases ez
      obtain ⟨p, us, rfl, h1, h2⟩ := hv.tups x1.s
      exact .inr (.inl ⟨us, h1, (isE h2).symm⟩)
    | dict es => cases ez⟩
variable {t u : Env → Rs Bool}
def boolO : D → Option Bool
  | .bool b => some b
  | _ => none
theorem t_val (ha : PE X a (cV G ow 1 f)) (he : ∀ whole, isTrue a X.env whole = (do let v ← whole; standAt a.pos; holding [v] (truthy v)) := by intro _; rfl) : PT X a (cT G ow fun γ => (f γ).bind fun d => oR (boolO d)) :=
  (pt_val ha he).impD fun σ H Q ⟨B, γ, I, q⟩ => ⟨B, γ, I, q.bind.imp fun d q v B1 H1 x1 hv => by
    obtain ⟨z, ez, q⟩ := q.oR
    unfold boolO at ez
    split at ez
    · cases ez
      exact ⟨_, hv.bool, q B1 H1 x1⟩
    · cases ez⟩
theorem _root_.L2.PW.impD {t t' : TT} (h : PW X e t) (hi : ∀ σ H Q, t' σ H Q → t σ H Q) : PW X e t' := ⟨fun wh pins s σ H Q I q => h.run wh pins s σ H Q I (hi σ H Q q)⟩
theorem t_and1 (ha : PT X a (cT G ow t)) : PW X (.BoolOp .And [a] pos) (cT G ow t) := pw_and1 ha
theorem t_or1 (ha : PT X a (cT G ow t)) : PW X (.BoolOp .Or [a] pos) (cT G ow t) := pw_or1 ha
def andR (x : Rs Bool) (y : Rs Bool) : Rs Bool := x.bind fun c => if c = true then y else .ok false
def orR (x : Rs Bool) (y : Rs Bool) : Rs Bool := x.bind fun c => if c = true then .ok true else y
theorem t_and {rest : List Expr} (ha : PT X a (cT G ow t)) (hb : PW X (.BoolOp .And (b :: rest) pos) (cT G ow u)) : PW X (.BoolOp .And (a :: b :: rest) pos) (cT G ow fun γ => andR (t γ) (u γ)) :=
  L2.PW.impD (pw_and ha hb) fun σ H Q ⟨B, γ, I, q⟩ => ⟨B, γ, I, (show RsP G σ B H ((t γ).bind _) _ from q).bind.imp fun c q B1 H1 x1 => by
    cases c with
    | true => exact ⟨B1, γ, I.mono x1, RsP.mono x1 (show RsP G σ B H (u γ) _ from q) fun c q B2 H2 x2 => q B2 H2 (x1.trans x2)⟩
    | false => exact (show ∀ B' H', _ from q) B1 H1 x1⟩
theorem t_or {rest : List Expr} (ha : PT X a (cT G ow t)) (hb : PW X (.BoolOp .Or (b :: rest) pos) (cT G ow u)) : PW X (.BoolOp .Or (a :: b :: rest) pos) (cT G ow fun γ => orR (t γ) (u γ)) :=
  L2.PW.impD (pw_or ha hb) fun σ H Q ⟨B, γ, I, q⟩ => ⟨B, γ, I, (show RsP G σ B H ((t γ).bind _) _ from q).bind.imp fun c q B1 H1 x1 => by
    cases c with
    | false => exact ⟨B1, γ, I.mono x1, RsP.mono x1 (show RsP G σ B H (u γ) _ from q) fun c q B2 H2 x2 => q B2 H2 (x1.trans x2)⟩
    | true => exact (show ∀ B' H', _ from q) B1 H1 x1⟩
theorem t_not (ha : PT X a (cT G ow t)) : PT X (.UnaryOp .Not a pos) (cT G ow fun γ => (t γ).map not) := (pt_not ha).impD fun σ H Q ⟨B, γ, I, q⟩ => ⟨B, γ, I, q.map.imp fun c q => q⟩
/-- and, or, not as values: bools ahead -/
def andVR (x : Rs D) (y : Rs D) : Rs D := x.bind fun c => match c with
  | .bool true => y
  | .bool false => .ok (.bool false)
  | _ => .no
def orVR (x : Rs D) (y : Rs D) : Rs D := x.bind fun c => match c with
  | .bool false => y
  | .bool true => .ok (.bool true)
  | _ => .no
theorem RsP.andV {σ : L2.St} {B H : Hp} {x y : Rs D} {P : D → Prop} (h : RsP G σ B H (andVR x y) P) : RsP G σ B H x fun c => ∃ b, c = .bool b ∧ if b = true then RsP G σ B H y P else P (.bool false) := by
  refine (RsP.bind h).imp fun c h => ?_
  cases c with
  | bool b => cases b with
    | true => exact ⟨true, rfl, h⟩
    | false => exact ⟨false, rfl, h⟩
  | none => exact h.elim
  | int _ => exact h.elim
  | str _ => exact h.elim
  | list _ => exact h.elim
  | tuple _ => exact h.elim
  | dict _ => exact h.elim
theorem RsP.orV {σ : L2.St} {B H : Hp} {x y : Rs D} {P : D → Prop} (h : RsP G σ B H (orVR x y) P) : RsP G σ B H x fun c => ∃ b, c = .bool b ∧ if b = true then P (.bool true) else RsP G σ B H y P := by
  refine (RsP.bind h).imp fun c h => ?_
  cases c with
  | bool b => cases b with
    | true => exact ⟨true, rfl, h⟩
    | false => exact ⟨false, rfl, h⟩
  | none => exact h.elim
  | int _ => exact h.elim
  | str _ => exact h.elim
  | list _ => exact h.elim
  | tuple _ => exact h.elim
  | dict _ => exact h.elim
theorem d_one {op : BoolOp} (ha : PE X a (cV G ow 0 f)) : PE X (.BoolOp op [a] pos) (cV G ow 0 f) := pe_one ha
theorem d_and {rest : List Expr} (ha : PE X a (cV G ow 1 f)) (hb : PE X (.BoolOp .And (b :: rest) pos) (cV G ow 0 g)) : PE X (.BoolOp .And (a :: b :: rest) pos) (cV G ow 0 fun γ => andVR (f γ) (g γ)) :=
  (pe_and ha hb).impD fun σ H Q ⟨B, γ, I, q⟩ => ⟨B, γ, I, q.andV.imp fun c q v B1 H1 x1 hv => by
    obtain ⟨k, rfl, q⟩ := q
    refine ⟨k, hv.bool, ?_⟩
    cases k with
    | true => exact ⟨B1, γ, I.mono x1, RsP.mono x1 (show RsP G σ B H (g γ) _ from q) fun d q v2 B2 H2 x2 h2 => q v2 B2 H2 (x1.trans x2) h2⟩
    | false => exact (show ∀ v B' H', _ from q) _ B1 H1 x1 (.bl _)⟩
theorem d_or {rest : List Expr} (ha : PE X a (cV G ow 1 f)) (hb : PE X (.BoolOp .Or (b :: rest) pos) (cV G ow 0 g)) : PE X (.BoolOp .Or (a :: b :: rest) pos) (cV G ow 0 fun γ => orVR (f γ) (g γ)) :=
  (pe_or ha hb).impD fun σ H Q ⟨B, γ, I, q⟩ => ⟨B, γ, I, q.orV.imp fun c q v B1 H1 x1 hv => by
    obtain ⟨k, rfl, q⟩ := q
    refine ⟨k, hv.bool, ?_⟩
    cases k with
    | false => exact ⟨B1, γ, I.mono x1, RsP.mono x1 (show RsP G σ B H (g γ) _ from q) fun d q v2 B2 H2 x2 h2 => q v2 B2 H2 (x1.trans x2) h2⟩
    | true => exact (show ∀ v B' H', _ from q) _ B1 H1 x1 (.bl _)⟩
def notD : D → Option D
  | .bool b => some (.bool (!b))
  | _ => none
theorem d_not (ha : PE X a (cV G ow 1 f)) : PE X (.UnaryOp .Not a pos) (cV G ow 0 (b1 f notD)) := (pe_not ha).impD fun σ H Q ⟨B, γ, I, q⟩ => ⟨B, γ, I, q.bind.imp fun d q v B1 H1 x1 hv => by
  obtain ⟨z, ez, q⟩ := q.oR
  unfold notD at ez
  split at ez
  · cases ez
    exact ⟨_, hv.bool, q _ B1 H1 x1 (.bl _)⟩
  · cases ez⟩
theorem d_if {c : Expr} (hc : PT X c (cT G ow t)) (ha : PE X a (cV G ow k f)) (hb : PE X b (cV G ow k g)) : PE X (.IfExp c a b pos) (cV G ow k fun γ => (t γ).bind fun z => if z = true then f γ else g γ) :=
  (pe_ifExp hc ha hb).impD fun σ H Q ⟨B, γ, I, q⟩ => ⟨B, γ, I, q.bind.imp fun c q B1 H1 x1 => by
    cases c with
    | true => exact ⟨B1, γ, I.mono x1, RsP.mono x1 (show RsP G σ B H (f γ) _ from q) fun d q v2 B2 H2 x2 h2 => q v2 B2 H2 (x1.trans x2) h2⟩
    | false => exact ⟨B1, γ, I.mono x1, RsP.mono x1 (show RsP G σ B H (g γ) _ from q) fun d q v2 B2 H2 x2 h2 => q v2 B2 H2 (x1.trans x2) h2⟩⟩
theorem n_if {c : Expr} {f g : Env → Rs (List D)} (hc : PT X c (cT G ow t)) (ha : PE X a (cN G ow f)) (hb : PE X b (cN G ow g)) : PE X (.IfExp c a b pos) (cN G ow fun γ => (t γ).bind fun z => if z = true then f γ else g γ) :=
  (pe_ifExp hc ha hb).impD fun σ H Q ⟨B, γ, I, q⟩ => ⟨B, γ, I, q.bind.imp fun c q B1 H1 x1 => by
    cases c with
    | true => exact ⟨B1, γ, I.mono x1, RsP.mono x1 (show RsP G σ B H (f γ) _ from q) fun d q p xs B2 H2 x2 h2 h3 h4 h5 => q p xs B2 H2 (x1.trans x2) (x1.h.free h2) h3 h4 h5⟩
    | false => exact ⟨B1, γ, I.mono x1, RsP.mono x1 (show RsP G σ B H (g γ) _ from q) fun d q p xs B2 H2 x2 h2 h3 h4 h5 => q p xs B2 H2 (x1.trans x2) (x1.h.free h2) h3 h4 h5⟩⟩
end
end DL
set_option Elab.async false
set_option linter.all false
set_option maxRecDepth 100000
set_option maxHeartbeats 4000000
/-! The data layer: statements, loops, comprehensions, calls. -/
namespace DL
open PySem PySem.Spec PyProof.Rows L2

/-! ### statements -/
def OutP (G : Gd) (owN owL : List Nat) (B : Hp) (J : Ends) : Out → Prop
  | .nx γ => ∀ B' σ' H', Same B B' → EnvR G owN B' H' σ' γ → J.nx σ' H'
  | .rt d => ∀ v B' H', Same B B' → Ext G.B G.H B' H' → Dn G.K B' v d → J.rt v H'
  | .bk γ => ∀ B' σ' H', Same B B' → EnvR G owL B' H' σ' γ → J.bk σ' H'
  | .ct γ => ∀ B' σ' H', Same B B' → EnvR G owL B' H' σ' γ → J.ct σ' H'
  | .er c fs γ => ∀ C dd B' σ' H' fs', Same B B' → EnvR G [] B' H' σ' γ → G.mg c = some (.ref C) → H' dd = some (.xd fs') → FR G B' fs' fs → G.W (.ref C) (some dd) σ' H'
  | .no => False
def cS (G : Gd) (ow owN owL : List Nat) (f : Env → Out) : TS := fun J σ H => ∃ B γ, EnvR G ow B H σ γ ∧ OutP G owN owL B J (f γ)
section
variable {G : Gd} {ow owN owL ow1 : List Nat} {B B' H H' : Hp} {J : Ends} {σ : L2.St} {γ : Env} {α : Type}
theorem OutP.mono {o : Out} (s : Same B B') (h : OutP G owN owL B J o) : OutP G owN owL B' J o := by
  cases o with
  | nx γ => exact fun B2 σ' H' s2 I => h B2 σ' H' (s.trans s2) I
  | rt d => exact fun v B2 H' s2 x hv => h v B2 H' (s.trans s2) x hv
  | bk γ => exact fun B2 σ' H' s2 I => h B2 σ' H' (s.trans s2) I
  | ct γ => exact fun B2 σ' H' s2 I => h B2 σ' H' (s.trans s2) I
  | er c fs γ => exact fun C dd B2 σ' H' fs' s2 I => h C dd B2 σ' H' fs' (s.trans s2) I
  | no => exact h
def liftS (r : Rs α) (γ : Env) (k : α → Out) : Out := match r with
  | .ok a => k a
  | .er c fs => .er c fs γ
  | .no => .no
@[simp] theorem liftS_ok (a : α) (γ : Env) (k : α → Out) : liftS (.ok a) γ k = k a := Eq.trans (Eq.refl _) rfl
@[simp] theorem liftS_er (c : Str) (fs : List (Str × D)) (γ : Env) (k : α → Out) : liftS (.er c fs) γ k = .er c fs γ := Eq.trans (Eq.refl _) rfl
@[simp] theorem liftS_no (γ : Env) (k : α → Out) : liftS (.no : Rs α) γ k = .no := Eq.trans (Eq.refl _) rfl
theorem OutP.lift {r : Rs α} {k : α → Out} (I : EnvR G ow B H σ γ) (h : OutP G owN owL B J (liftS r γ k)) : RsP G σ B H r fun a => OutP G owN owL B J (k a) := by
  cases r with
  | ok a => exact h
  | er c fs =>
    intro C dd B1 H1 fs' e h1 h2 h3
    obtain ⟨B2, s2, I2⟩ := (I.mono e).allF
    exact h C dd B2 σ H1 fs' (e.b.trans s2) I2 h1 h2 (Paired.mapP h3 fun _ _ z => ⟨z.1, z.2.mono s2⟩)
  | no => exact h
theorem _root_.L2.PS.impD {X : Cx} {st : Stmt} {t t' : TS} (h : PS X st t) (hi : ∀ J σ H, t' J σ H → t J σ H) : PS X st t' := ⟨fun pins s σ H J I q => h.run pins s σ H J I (hi J σ H q)⟩
theorem _root_.L2.PSs.impD {X : Cx} {st : List Stmt} {t t' : TS} (h : PSs X st t) (hi : ∀ J σ H, t' J σ H → t J σ H) : PSs X st t' := ⟨fun pins s σ H J I q => h.run pins s σ H J I (hi J σ H q)⟩
end
def seqS (f g : Env → Out) : Env → Out := fun γ => match f γ with
  | .nx γ' => g γ'
  | .rt d => .rt d
  | .bk γ => .bk γ
  | .ct γ => .ct γ
  | .er c fs γ => .er c fs γ
  | .no => .no
section
variable {X : Cx} {st : Stmt} {rest : List Stmt} {e : Expr} {pos : Pos} {G : Gd} {ow owN owL ow1 : List Nat} {f g : Env → Out} {fe : Env → Rs D}
theorem s_nil : PSs X [] (cS G ow ow owL fun γ => .nx γ) := pss_nil.impD fun J σ H ⟨B, γ, I, q⟩ => q B σ H (.refl _) I
theorem s_one (h : PS X st (cS G ow owN owL f)) : PSs X [st] (cS G ow owN owL f) := pss_one h
theorem s_cons (h : PS X st (cS G ow ow1 owL f)) (hr : PSs X rest (cS G ow1 owN owL g)) : PSs X (st :: rest) (cS G ow owN owL (seqS f g)) := (pss_cons h hr).impD fun J σ H ⟨B, γ, I, q⟩ => by
  refine ⟨B, γ, I, ?_⟩
  unfold seqS at q
  cases hf : f γ with
  | nx γ1 =>
    rw [hf] at q
    exact fun B' σ' H' s I' => ⟨B', γ1, I', OutP.mono s q⟩
  | rt d => rw [hf] at q; exact q
  | bk γ => rw [hf] at q; exact q
  | ct γ => rw [hf] at q; exact q
  | er c fs γ => rw [hf] at q; exact q
  | no => rw [hf] at q; exact q
theorem s_frz (i : Nat) (h : PS X st (cS G (ow.set i 0) owN owL f)) : PS X st (cS G ow owN owL f) := h.impD fun J σ H ⟨B, γ, I, q⟩ => by
  obtain ⟨B', s, I'⟩ := I.frz i
  exact ⟨B', γ, I', OutP.mono s q⟩
theorem ss_frz (i : Nat) (h : PSs X rest (cS G (ow.set i 0) owN owL f)) : PSs X rest (cS G ow owN owL f) := h.impD fun J σ H ⟨B, γ, I, q⟩ => by
  obtain ⟨B', s, I'⟩ := I.frz i
  exact ⟨B', γ, I', OutP.mono s q⟩
theorem s_pass : PS X (.Pass pos) (cS G ow ow owL fun γ => .nx γ) := ps_pass.impD fun J σ H ⟨B, γ, I, q⟩ => q B σ H (.refl _) I
theorem s_break : PS X (.Break pos) (cS G owL owN owL fun γ => .bk γ) := ps_break.impD fun J σ H ⟨B, γ, I, q⟩ => q B σ H (.refl _) I
theorem s_continue : PS X (.Continue pos) (cS G owL owN owL fun γ => .ct γ) := ps_continue.impD fun J σ H ⟨B, γ, I, q⟩ => q B σ H (.refl _) I
theorem s_ret (he : PE X e (cV G ow 0 fe)) : PS X (.Return (some e) pos) (cS G ow owN owL fun γ => liftS (fe γ) γ .rt) := (ps_ret he).impD fun J σ H ⟨B, γ, I, q⟩ => ⟨B, γ, I, (q.lift I).imp fun d q v B1 H1 x1 hv => q v B1 H1 x1.b (I.e.trans x1) hv⟩
theorem s_retN : PS X (.Return none pos) (cS G ow owN owL fun _ => .rt .none) := ps_retN.impD fun J σ H ⟨B, γ, I, q⟩ => q .non B H (.refl _) I.e .non
theorem s_expr (he : PE X e (cV G ow 1 fe)) (hs : swapsWith e none pos.line X.env = pure false := by rfl) : PS X (.Expr e pos) (cS G ow ow owL fun γ => liftS (fe γ) γ fun _ => .nx γ) := (ps_expr he hs).impD fun J σ H ⟨B, γ, I, q⟩ => ⟨B, γ, I, (q.lift I).imp fun d q v B1 H1 x1 hv => q B1 σ H1 x1.b (I.mono x1)⟩
def ifS (t : Env → Rs Bool) (f g : Env → Out) : Env → Out := fun γ => liftS (t γ) γ fun b => if b = true then f γ else g γ
theorem s_if {c : Expr} {a b : List Stmt} {t : Env → Rs Bool} (hc : PT X c (cT G ow t)) (ha : PSs X a (cS G ow owN owL f)) (hb : PSs X b (cS G ow owN owL g)) : PS X (.If c a b pos) (cS G ow owN owL (ifS t f g)) :=
  (ps_if hc ha hb).impD fun J σ H ⟨B, γ, I, q⟩ => ⟨B, γ, I, (OutP.lift (r := t γ) I q).imp fun d q B1 H1 x1 => by
    cases d with
    | true => exact ⟨B1, γ, I.mono x1, OutP.mono x1.b (show OutP G owN owL B J (f γ) from q)⟩
    | false => exact ⟨B1, γ, I.mono x1, OutP.mono x1.b (show OutP G owN owL B J (g γ) from q)⟩⟩
/-- a name is given a value that is kept -/
theorem s_set {ow' : List Nat} {x : Str} {p' : Pos} (i : Nat) (he : PE X e (cV G ow 0 fe)) (hN : X.N.Nodup) (hw : ow.set i 0 = ow' := by rfl) (hi : X.N[i]? = some x := by rfl) (hx : Loc X.env.scope x := by first | exact .inl rfl | exact .inr rfl) (hg : G.x = none := by rfl)
    (hs : swapsWith e (some (.Name x p')) pos.line X.env = pure false := by rfl) (hf : X.fn x = true ∨ X.env.scope.names.lookup x = some .local := by first | exact .inl rfl | exact .inr rfl | assumption) :
    PS X (.Assign [.Name x p'] e pos) (cS G ow ow' owL fun γ => liftS (fe γ) γ fun d => .nx (γ.set i (some d))) :=
  (ps_set hN hi hx he hs hf).impD fun J σ H ⟨B, γ, I, q⟩ => ⟨B, γ, I, (q.lift I).imp fun d q v B1 H1 x1 hv => by
    refine q B1 _ H1 x1.b ?_
    rw [← hw]
    exact (I.mono x1).set i hg hv⟩
/-- a name is given a new list of its own -/
theorem s_new {ow' : List Nat} {x : Str} {p' : Pos} {fn : Env → Rs (List D)} (i : Nat) (he : PE X e (cN G ow fn)) (hN : X.N.Nodup) (hw : ow.set i 1 = ow' := by rfl) (hlt : i < ow.length := by decide) (hi : X.N[i]? = some x := by rfl) (hx : Loc X.env.scope x := by first | exact .inl rfl | exact .inr rfl) (hg : G.x = none := by rfl)
    (hs : swapsWith e (some (.Name x p')) pos.line X.env = pure false := by rfl) (hf : X.fn x = true ∨ X.env.scope.names.lookup x = some .local := by first | exact .inl rfl | exact .inr rfl | assumption) :
    PS X (.Assign [.Name x p'] e pos) (cS G ow ow' owL fun γ => liftS (fn γ) γ fun ds => .nx (γ.set i (some (.list ds)))) :=
  (ps_set hN hi hx he hs hf).impD fun J σ H ⟨B, γ, I, q⟩ => ⟨B, γ, I, (q.lift I).imp fun d q p xs B1 H1 x1 hp hb hl hd => by
    refine q B1 _ H1 x1.b ?_
    rw [← hw]
    exact I.setN i hg hlt x1 hp hb hl hd⟩
/-- name op= e -/
theorem s_aug {ow' : List Nat} {x : Str} {p' : Pos} {op : Operator} {r : R2} {F : D → D → Option D} (i : Nat) (hr : HR G.K r F) (ho : OpR X (inplaceOp op) r) (he : PE X e (cV G ow 1 fe)) (hN : X.N.Nodup) (h0 : ow.getD i 0 = 0 := by rfl) (hw : ow.set i 0 = ow' := by rfl) (hi : X.N[i]? = some x := by rfl) (hx : Loc X.env.scope x := by first | exact .inl rfl | exact .inr rfl) (hg : G.x = none := by rfl)
    (hf : X.fn x = true ∨ X.env.scope.names.lookup x = some .local := by first | exact .inl rfl | exact .inr rfl | assumption) :
    PS X (.AugAssign (.Name x p') op e pos) (cS G ow ow' owL fun γ => liftS ((gE γ i).bind fun d => (fe γ).bind fun z => oR (F d z)) γ fun d => .nx (γ.set i (some d))) :=
  (ps_aug (ti := r) hN hi hx he ho hf).impD fun J σ H ⟨B, γ, I, q⟩ => by
    obtain ⟨d, e1, q⟩ := (q.lift I).bind.gE
    obtain ⟨own, h1, h2, h3⟩ := I.v
    obtain ⟨v, e2, r1⟩ := h3 i d e1
    rw [h0] at r1
    refine ⟨v, e2, B, γ, I, q.bind.imp fun z q u B1 H1 x1 hu => ?_⟩
    obtain ⟨y, ey, q⟩ := q.oR
    refine hr.run x1.s (DnF.of (Dn.mono x1.b r1)) hu ey fun w' B2 H2 x2 hw' => ?_
    refine q B2 _ H2 (x1.b.trans x2.b) ?_
    rw [← hw]
    exact (I.mono (x1.trans x2)).set i hg hw'
/-- what a slot holds as a list -/
def lsE (γ : Env) (i : Nat) : Rs (List D) := match γ[i]? with
  | some (some (.list ds)) => .ok ds
  | _ => .no
theorem RsP.lsE {G : Gd} {σ : L2.St} {B H : Hp} {γ : Env} {i : Nat} {P : List D → Prop} (h : RsP G σ B H (lsE γ i) P) : ∃ ds, γ[i]? = some (some (.list ds)) ∧ P ds := by
  unfold DL.lsE at h
  split at h
  · rename_i ds e; exact ⟨ds, e, h⟩
  · exact h.elim
/-- x.append(e) -/
def appS (i : Nat) (fe : Env → Rs D) : Env → Out := fun γ => liftS ((lsE γ i).bind fun ds => (fe γ).bind fun d => oR (if ds.length < LIM then some (ds ++ [d]) else none)) γ fun es => .nx (γ.set i (some (.list es)))
theorem s_append {x : Str} {p1 p2 p3 : Pos} (i : Nat) (he : PE X e (cV G ow 0 fe)) (hk : ow.getD i 0 = 1 := by rfl) (hi : X.N[i]? = some x := by rfl) (hv : Vis X.env.scope x := by first | exact Or.inl rfl | exact Or.inr (Or.inl rfl) | exact Or.inr (Or.inr rfl)) (hg : G.x = none := by rfl)
    (hd : (x == ("__debug__" : Str)) = false := by decide) (hcd : (x == ("__classdict__" : Str)) = false := by decide)
    (hbase : attributeBase (.Name x p1) "append" X.env (eval (.Name x p1) X.env) = eval (.Name x p1) X.env := by rfl) (hst : starEach [e] X.env = (false, eval e X.env) :: starEach [] X.env := by rfl)
    (h1 : PE X (.Name x p1) (tVar i) → PA X [e] (tCons (cV G ow 0 fe) tNil) → PE X (.Call (.Attribute (.Name x p1) "append" p2) [e] [] p3) (tBM X.K "list" rAppend (tVar i) (tCons (cV G ow 0 fe) tNil)) := by
      exact fun h1 h2 => pe_bm PySem.F.plainAttrs_list PySem.F.slot_list_append PySem.F.type_list_append mt_append h1 h2)
    (hs : swapsWith (.Call (.Attribute (.Name x p1) "append" p2) [e] [] p3) none pos.line X.env = pure false := by rfl) :
    PS X (.Expr (.Call (.Attribute (.Name x p1) "append" p2) [e] [] p3) pos) (cS G ow ow owL (appS i fe)) :=
  (ps_expr (h1 (pe_var hi hv hd hcd) (pa_cons he pa_nil hst)) hs).impD fun J σ H ⟨B, γ, I, q⟩ => by
    obtain ⟨ds, hgi, q⟩ := (OutP.lift I q).bind.lsE
    obtain ⟨p, xs, e1, e2, _⟩ := I.wr hg hk hgi
    refine ⟨.ref p, e1, .inl ⟨rfl, xs, .inl (.inl e2)⟩, B, γ, I, q.bind.imp fun d q v B1 H1 x1 hv => ?_⟩
    obtain ⟨z, ez, q⟩ := q.oR
    obtain ⟨p', xs', e1', e2', e3', wr⟩ := (I.mono x1).wr hg hk hgi
    rw [e1] at e1'
    cases e1'
    split at ez
    · rename_i hlt
      cases ez
      exact ⟨p, xs', v, rfl, rfl, e2', by rw [e3'.length]; exact lim_lt hlt, q B1 σ _ x1.b (wr _ _ (e3'.append (.cons hv .nil)))⟩
    · cases ez
/-- x.extend(e) -/
def catL (ds : List D) : D → Option (List D)
  | .list es => if ds.length + es.length ≤ LIM then some (ds ++ es) else none
  | _ => none
def extS (i : Nat) (fe : Env → Rs (List D)) : Env → Out := fun γ => liftS ((lsE γ i).bind fun ds => (fe γ).bind fun es => oR (if ds.length + es.length ≤ LIM then some (ds ++ es) else none)) γ fun es => .nx (γ.set i (some (.list es)))
theorem s_extend {x : Str} {p1 p2 p3 : Pos} {fn : Env → Rs (List D)} (i : Nat) (he : PE X e (cN G ow fn)) (hk : ow.getD i 0 = 1 := by rfl) (hi : X.N[i]? = some x := by rfl) (hv : Vis X.env.scope x := by first | exact Or.inl rfl | exact Or.inr (Or.inl rfl) | exact Or.inr (Or.inr rfl)) (hg : G.x = none := by rfl)
    (hd : (x == ("__debug__" : Str)) = false := by decide) (hcd : (x == ("__classdict__" : Str)) = false := by decide)
    (hbase : attributeBase (.Name x p1) "extend" X.env (eval (.Name x p1) X.env) = eval (.Name x p1) X.env := by rfl) (hst : starEach [e] X.env = (false, eval e X.env) :: starEach [] X.env := by rfl)
    (h1 : PE X (.Name x p1) (tVar i) → PA X [e] (tCons (cN G ow fn) tNil) → PE X (.Call (.Attribute (.Name x p1) "extend" p2) [e] [] p3) (tBM X.K "list" rExtend (tVar i) (tCons (cN G ow fn) tNil)) := by
      exact fun h1 h2 => pe_bm PySem.F.plainAttrs_list PySem.F.slot_list_extend PySem.F.type_list_extend mt_extend h1 h2)
    (hs : swapsWith (.Call (.Attribute (.Name x p1) "extend" p2) [e] [] p3) none pos.line X.env = pure false := by rfl) :
    PS X (.Expr (.Call (.Attribute (.Name x p1) "extend" p2) [e] [] p3) pos) (cS G ow ow owL (extS i fn)) :=
  (ps_expr (h1 (pe_var hi hv hd hcd) (pa_cons he pa_nil hst)) hs).impD fun J σ H ⟨B, γ, I, q⟩ => by
    obtain ⟨ds, hgi, q⟩ := (OutP.lift I q).bind.lsE
    obtain ⟨p, xs, e1, e2, _⟩ := I.wr hg hk hgi
    refine ⟨.ref p, e1, .inl ⟨rfl, xs, .inl (.inl e2)⟩, B, γ, I, q.bind.imp fun es q r ys B1 H1 x1 hr hb hl hes => ?_⟩
    obtain ⟨z, ez, q⟩ := q.oR
    obtain ⟨p', xs', e1', e2', e3', wr⟩ := (I.mono x1).wr hg hk hgi
    rw [e1] at e1'
    cases e1'
    split at ez
    · rename_i hlt
      cases ez
      exact ⟨p, r, xs', ys, rfl, rfl, e2', hl, by rw [e3'.length, hes.length]; exact lim_le hlt, q B1 σ _ x1.b (wr _ _ (e3'.append hes))⟩
    · cases ez
/-- x[i] = e -/
def putL (ds : List D) (d : D) : D → Option (List D)
  | .int k => (ixN ds.length k).map fun j => ds.set j d
  | _ => none
def putS (i : Nat) (fe fi : Env → Rs D) : Env → Out := fun γ => liftS ((fe γ).bind fun d => (lsE γ i).bind fun ds => (fi γ).bind fun k => oR (putL ds d k)) γ fun es => .nx (γ.set i (some (.list es)))
theorem s_put {x : Str} {ix : Expr} {p1 p2 : Pos} {fi : Env → Rs D} (i : Nat) (he : PE X e (cV G ow 0 fe)) (hix : PE X ix (cV G ow 1 fi)) (hk : ow.getD i 0 = 1 := by rfl) (hi : X.N[i]? = some x := by rfl) (hv : Vis X.env.scope x := by first | exact Or.inl rfl | exact Or.inr (Or.inl rfl) | exact Or.inr (Or.inr rfl)) (hg : G.x = none := by rfl)
    (hd : (x == ("__debug__" : Str)) = false := by decide) (hcd : (x == ("__classdict__" : Str)) = false := by decide)
    (h1 : PE X e (cV G ow 0 fe) → PG X (.Subscript (.Name x p1) ix p2) (gSub (tVar i) (cV G ow 1 fi) rSetL) → PS X (.Assign [.Subscript (.Name x p1) ix p2] e pos) (tAsg (cV G ow 0 fe) (gSub (tVar i) (cV G ow 1 fi) rSetL)) := by exact fun h1 h2 => ps_asg h1 h2)
    (h2 : PE X (.Name x p1) (tVar i) → PE X ix (cV G ow 1 fi) → PG X (.Subscript (.Name x p1) ix p2) (gSub (tVar i) (cV G ow 1 fi) rSetL) := by exact fun h1 h2 => pg_sub h1 h2 set_list) :
    PS X (.Assign [.Subscript (.Name x p1) ix p2] e pos) (cS G ow ow owL (putS i fe fi)) :=
  (h1 he (h2 (pe_var hi hv hd hcd) hix)).impD fun J σ H ⟨B, γ, I, q⟩ => ⟨B, γ, I, (OutP.lift I q).bind.imp fun d q v B1 H1 x1 hv => by
    obtain ⟨ds, hgi, q⟩ := q.bind.lsE
    obtain ⟨p, xs, e1, e2, _⟩ := (I.mono x1).wr hg hk hgi
    refine ⟨.ref p, e1, B1, γ, I.mono x1, q.bind.mono x1 fun k q u B2 H2 x2 hu => ?_⟩
    obtain ⟨z, ez, q⟩ := q.oR
    obtain ⟨p', xs', e1', e2', e3', wr⟩ := (I.mono (x1.trans x2)).wr hg hk hgi
    rw [e1] at e1'
    cases e1'
    unfold putL at ez
    split at ez
    · rename_i n
      cases hj : ixN ds.length n with
      | none => rw [hj] at ez; cases ez
      | some j =>
        rw [hj] at ez
        cases ez
        refine ⟨p, xs', n, j, rfl, hu.int, e2', by rw [e3'.length]; exact hj, q B2 σ _ (x1.trans x2).b (wr _ _ (e3'.set (Dn.mono x2.b hv) j))⟩
    · cases ez⟩
/-- x.pop() as a statement -/
def popS (i : Nat) : Env → Out := fun γ => liftS ((lsE γ i).bind fun ds => oR (if ds.isEmpty = false then some ds.dropLast else none)) γ fun es => .nx (γ.set i (some (.list es)))
theorem lastV {K : PySem.W.Frag} {H : Hp} {xs : List V} {ds : List D} (h : DnAll K H xs ds) (e : ds.isEmpty = false) : ∃ y d, xs[xs.length - 1]? = some y ∧ ds.getLast? = some d ∧ Dn K H y d := by
  have hl : ds.length - 1 < ds.length := by
    cases ds with
    | nil => cases e
    | cons _ _ => simp
  obtain ⟨x, h1, h2⟩ := h.get (List.getElem?_eq_getElem hl)
  exact ⟨x, ds[ds.length - 1], by rw [h.length]; exact h1, by rw [List.getLast?_eq_getElem?, List.getElem?_eq_getElem hl], h2⟩
theorem s_pop {x : Str} {p1 p2 p3 : Pos} (i : Nat) (hk : ow.getD i 0 = 1 := by rfl) (hi : X.N[i]? = some x := by rfl) (hv : Vis X.env.scope x := by first | exact Or.inl rfl | exact Or.inr (Or.inl rfl) | exact Or.inr (Or.inr rfl)) (hg : G.x = none := by rfl)
    (hd : (x == ("__debug__" : Str)) = false := by decide) (hcd : (x == ("__classdict__" : Str)) = false := by decide)
    (h1 : PE X (.Name x p1) (tVar i) → PE X (.Call (.Attribute (.Name x p1) "pop" p2) [] [] p3) (tBM0 X.K "list" rPop (tVar i)) := by
      exact fun h1 => pe_bm0 PySem.F.plainAttrs_list PySem.F.slot_list_pop PySem.F.type_list_pop mt_pop h1)
    (hs : swapsWith (.Call (.Attribute (.Name x p1) "pop" p2) [] [] p3) none pos.line X.env = pure false := by rfl) :
    PS X (.Expr (.Call (.Attribute (.Name x p1) "pop" p2) [] [] p3) pos) (cS G ow ow owL (popS i)) :=
  (ps_expr (h1 (pe_var hi hv hd hcd)) hs).impD fun J σ H ⟨B, γ, I, q⟩ => by
    obtain ⟨ds, hgi, q⟩ := (OutP.lift I q).bind.lsE
    obtain ⟨z, ez, q⟩ := q.oR
    obtain ⟨p, xs, e1, e2, e3, wr⟩ := I.wr hg hk hgi
    split at ez
    · rename_i hne
      cases ez
      obtain ⟨y, d, y1, y2, y3⟩ := lastV e3 hne
      exact ⟨.ref p, e1, .inl ⟨rfl, xs, .inl (.inl e2)⟩, p, xs, y, rfl, rfl, e2, y1, q B σ _ (.refl _) (wr _ _ e3.dropLast)⟩
    · cases ez
/-- y = x.pop() -/
def popSet (i j : Nat) : Env → Out := fun γ => liftS ((lsE γ i).bind fun ds => oR (ds.getLast?.map fun d => (ds.dropLast, d))) γ fun es => .nx ((γ.set i (some (.list es.1))).set j (some es.2))
theorem s_popSet {ow' : List Nat} {x y : Str} {p1 p2 p3 p' : Pos} (i j : Nat) (hij : i ≠ j) (hN : X.N.Nodup) (hk : ow.getD i 0 = 1 := by rfl) (hw : ow.set j 0 = ow' := by rfl) (hi : X.N[i]? = some x := by rfl) (hj : X.N[j]? = some y := by rfl) (hv : Vis X.env.scope x := by first | exact Or.inl rfl | exact Or.inr (Or.inl rfl) | exact Or.inr (Or.inr rfl)) (hx : Loc X.env.scope y := by first | exact .inl rfl | exact .inr rfl) (hg : G.x = none := by rfl)
    (hd : (x == ("__debug__" : Str)) = false := by decide) (hcd : (x == ("__classdict__" : Str)) = false := by decide)
    (h1 : PE X (.Name x p1) (tVar i) → PE X (.Call (.Attribute (.Name x p1) "pop" p2) [] [] p3) (tBM0 X.K "list" rPop (tVar i)) := by
      exact fun h1 => pe_bm0 PySem.F.plainAttrs_list PySem.F.slot_list_pop PySem.F.type_list_pop mt_pop h1)
    (hs : swapsWith (.Call (.Attribute (.Name x p1) "pop" p2) [] [] p3) (some (.Name y p')) pos.line X.env = pure false := by rfl) (hf : X.fn y = true ∨ X.env.scope.names.lookup y = some .local := by first | exact .inl rfl | exact .inr rfl | assumption) :
    PS X (.Assign [.Name y p'] (.Call (.Attribute (.Name x p1) "pop" p2) [] [] p3) pos) (cS G ow ow' owL (popSet i j)) :=
  (ps_set hN hj hx (h1 (pe_var hi hv hd hcd)) hs hf).impD fun J σ H ⟨B, γ, I, q⟩ => by
    obtain ⟨ds, hgi, q⟩ := (OutP.lift I q).bind.lsE
    obtain ⟨z, ez, q⟩ := q.oR
    obtain ⟨p, xs, e1, e2, e3, wr⟩ := I.wr hg hk hgi
    cases hl : ds.getLast? with
    | none => rw [hl] at ez; cases ez
    | some d =>
      rw [hl] at ez
      cases ez
      have hne : ds.isEmpty = false := by cases ds with
        | nil => cases hl
        | cons _ _ => rfl
      obtain ⟨y0, d', y1, y2, y3⟩ := lastV e3 hne
      rw [hl] at y2
      cases y2
      refine ⟨.ref p, e1, .inl ⟨rfl, xs, .inl (.inl e2)⟩, p, xs, y0, rfl, rfl, e2, y1, q B _ _ (.refl _) ?_⟩
      rw [← hw]
      exact (wr _ _ e3.dropLast).set j hg y3
end

/-! ### targets and what is walked -/
def cG (G : Gd) (ow vs : List Nat) (t : D → Env → Option Env) : TG := fun v σ H Q => ∃ B γ d γ', EnvR G ow B H σ γ ∧ Dn G.K B v d ∧ t d γ = some γ' ∧ ∀ σ', wipe σ' vs = wipe σ vs → EnvR G ow B H σ' γ' → Q σ' H
def cGs (G : Gd) (ow vs : List Nat) (t : List D → Env → Option Env) : TGs := fun us σ H Q => ∃ B γ ds γ', EnvR G ow B H σ γ ∧ DnAll G.K B us ds ∧ t ds γ = some γ' ∧ ∀ σ', wipe σ' vs = wipe σ vs → EnvR G ow B H σ' γ' → Q σ' H
theorem _root_.L2.PG.impD {X : Cx} {e : Expr} {t t' : TG} (h : PG X e t) (hi : ∀ v σ H Q, t' v σ H Q → t v σ H Q) : PG X e t' := ⟨fun pins s σ H v u Q I r q => h.run pins s σ H v u Q I r (hi v σ H Q q)⟩
theorem _root_.L2.PGs.impD {X : Cx} {e : List Expr} {t t' : TGs} (h : PGs X e t) (hi : ∀ v σ H Q, t' v σ H Q → t v σ H Q) : PGs X e t' := ⟨fun pins s σ H v u Q I r q => h.run pins s σ H v u Q I r (hi v σ H Q q)⟩
theorem _root_.L2.PI.impD {X : Cx} {tg e : Expr} {t t' : TI} (h : PI X tg e t) (hi : ∀ σ H Q, t' σ H Q → t σ H Q) : PI X tg e t' := ⟨fun pins s σ H Q I q => h.run pins s σ H Q I (hi σ H Q q)⟩
def tgN (i : Nat) : D → Env → Option Env := fun d γ => some (γ.set i (some d))
def tgNil : List D → Env → Option Env := fun ds γ => match ds with
  | [] => some γ
  | _ => none
def tgCons (t : D → Env → Option Env) (u : List D → Env → Option Env) : List D → Env → Option Env := fun ds γ => match ds with
  | d :: r => (t d γ).bind (u r)
  | [] => none
def tgT (n : Nat) (u : List D → Env → Option Env) : D → Env → Option Env := fun d γ => match d with
  | .tuple ds => if ds.length = n then u ds γ else none
  | _ => none
section
variable {X : Cx} {e tg iter : Expr} {pos : Pos} {G : Gd} {ow owN owL vs : List Nat}
theorem wipe_get (σ : L2.St) (j : Nat) : ∀ vs : List Nat, (wipe σ vs)[j]? = if j ∈ vs then (σ[j]?).map (fun _ => none) else σ[j]?
  | [] => by simp [wipe]
  | v :: vs => by
    show ((wipe σ vs).set v none)[j]? = _
    by_cases e : j = v
    · subst e
      rw [if_pos List.mem_cons_self]
      by_cases hl : j < σ.length
      · rw [List.getElem?_set_self (by rw [wipe_length]; exact hl), List.getElem?_eq_getElem hl]; rfl
      · rw [List.getElem?_eq_none (by rw [List.length_set, wipe_length]; omega), List.getElem?_eq_none (by omega)]; rfl
    · rw [List.getElem?_set_ne (Ne.symm e), wipe_get σ j vs]
      by_cases h : j ∈ vs
      · rw [if_pos h, if_pos (List.mem_cons_of_mem _ h)]
      · rw [if_neg h, if_neg (by simp [e, h])]
theorem wipe_set (σ : L2.St) {i : Nat} (x : Option V) {vs : List Nat} (h : i ∈ vs) : wipe (σ.set i x) vs = wipe σ vs := by
  apply List.ext_getElem?
  intro j
  rw [wipe_get, wipe_get]
  by_cases hj : j ∈ vs
  · rw [if_pos hj, if_pos hj]
    by_cases e : j = i
    · subst e
      by_cases hl : j < σ.length
      · rw [List.getElem?_set_self hl, List.getElem?_eq_getElem hl]; rfl
      · rw [List.getElem?_eq_none (by rw [List.length_set]; omega), List.getElem?_eq_none (by omega)]
    · rw [List.getElem?_set_ne (Ne.symm e)]
  · rw [if_neg hj, if_neg hj, List.getElem?_set_ne (fun z => hj (by rw [← z]; exact h))]
theorem wipe_wipe (σ : L2.St) (vs : List Nat) : wipe (wipe σ vs) vs = wipe σ vs := by
  apply List.ext_getElem?
  intro j
  rw [wipe_get, wipe_get]
  by_cases hj : j ∈ vs
  · rw [if_pos hj, if_pos hj]
    cases σ[j]? <;> rfl
  · rw [if_neg hj, if_neg hj]
theorem g_name {x : Str} (i : Nat) (hN : X.N.Nodup) (hm : i ∈ vs := by decide) (hw : ow.set i 0 = ow := by rfl) (hi : X.N[i]? = some x := by rfl) (hx : Loc X.env.scope x := by first | exact .inl rfl | exact .inr rfl) (hg : G.x = none := by rfl) (hf : X.fn x = true ∨ X.env.scope.names.lookup x = some .local := by first | exact .inl rfl | exact .inr rfl | assumption) :
    PG X (.Name x pos) (cG G ow vs (tgN i)) := (pg_name hN hi hx hf).impD fun v σ H Q ⟨B, γ, d, γ', I, hv, ht, q⟩ => by
  cases ht
  refine q _ (wipe_set _ _ hm) ?_
  have := I.set i hg hv
  rw [hw] at this
  exact this
theorem gs_nil : PGs X [] (cGs G ow vs tgNil) := pgs_nil.impD fun v σ H Q ⟨B, γ, ds, γ', I, hv, ht, q⟩ => by
  unfold tgNil at ht
  split at ht
  · cases ht
    cases hv
    exact ⟨rfl, q _ rfl I⟩
  · cases ht
theorem gs_cons {es : List Expr} {t : D → Env → Option Env} {u : List D → Env → Option Env} (h1 : PG X e (cG G ow vs t)) (h2 : PGs X es (cGs G ow vs u)) (hs : (assignEach (e :: es) X.env).map (·.2) = assign e X.env :: (assignEach es X.env).map (·.2) := by rfl) :
    PGs X (e :: es) (cGs G ow vs (tgCons t u)) := (pgs_cons h1 h2 hs).impD fun v σ H Q ⟨B, γ, ds, γ', I, hv, ht, q⟩ => by
  unfold tgCons at ht
  split at ht
  · rename_i d r
    cases hv with
    | cons a b =>
      cases ht1 : t d γ with
      | none => rw [ht1] at ht; cases ht
      | some γ1 =>
        rw [ht1] at ht
        exact ⟨_, _, rfl, B, γ, d, γ1, I, a, ht1, fun σ1 w1 I1 => ⟨B, γ1, r, γ', I1, b, ht, fun σ2 w2 => q σ2 (w2.trans w1)⟩⟩
  · cases ht
theorem g_tup {es : List Expr} {kk n : Nat} {u : List D → Env → Option Env} (h : PGs X es (cGs G ow vs u)) (hc : X.calm = true := by rfl) (hn : (assignEach es X.env).length = n := by rfl) (hst : (assignEach es X.env).findIdx? (·.1) = none := by rfl) (hK : X.K = G.K := by rfl) :
    PG X (.Tuple es kk pos) (cG G ow vs (tgT n u)) := (pg_tup hc h hn hst).impD fun v σ H Q ⟨B, γ, d, γ', I, hv, ht, q⟩ => by
  unfold tgT at ht
  split at ht
  · rename_i ds
    split at ht
    · rename_i hl
      cases hv with
      | tup a b => exact ⟨_, _, rfl, hK ▸ .inl (.inl (I.s _ _ a)), by rw [b.length]; exact hl, B, γ, ds, γ', I, b, ht, q⟩
    · cases ht
  · cases ht
/-- the iterator gives these, one after the other -/
def JW (K : PySem.W.Frag) (B : Hp) (J : It) (ds : List D) : Prop := ∀ B' H', Same B B' → Same B' H' → ∀ i : Nat, (∀ d, ds[i]? = some d → J.go i H' ∧ ∀ x H2, J.yld i H' x H2 → ∃ B2, Ext B' H' B2 H2 ∧ Dn K B2 x d) ∧ (ds.length ≤ i → J.stop i H')
def cI (G : Gd) (ow : List Nat) (f : Env → Rs (List D)) : TI := fun σ H R => ∃ B γ, EnvR G ow B H σ γ ∧ RsP G σ B H (f γ) fun ds => ∀ J B' H', Ext B H B' H' → JW G.K B' J ds → R J H'
variable {f g : Env → Rs D}
def seqO : D → Option (List D)
  | .list ds => some ds
  | .tuple ds => some ds
  | _ => none
theorem jw_list {K : PySem.W.Frag} {B : Hp} {a : Addr} {xs : List V} {ds : List D} (h : SqL K B a xs) (hd : DnAll K B xs ds) : JW K B (Itl K a) ds := fun B' H' s s' i => by
  have hS : SqL K H' a xs := (s.trans s').seq h
  refine ⟨fun d e => ?_, fun hl => ⟨xs, hS, by rw [hd.length]; exact hl⟩⟩
  obtain ⟨x, e1, e2⟩ := hd.get e
  refine ⟨⟨xs, x, hS, e1⟩, fun y H2 hy => ?_⟩
  obtain ⟨rfl, hy⟩ := hy
  refine ⟨B', .refl s', ?_⟩
  have := hy xs hS
  rw [e1] at this
  cases this
  exact e2.mono s
theorem jw_tup {K : PySem.W.Frag} {B : Hp} {a : Addr} {xs : List V} {ds : List D} (h : SqT K B a xs) (hd : DnAll K B xs ds) : JW K B (Itt K a) ds := fun B' H' s s' i => by
  have hS : SqT K H' a xs := same_t (s.trans s') h
  refine ⟨fun d e => ?_, fun hl => ⟨xs, hS, by rw [hd.length]; exact hl⟩⟩
  obtain ⟨x, e1, e2⟩ := hd.get e
  refine ⟨⟨xs, x, hS, e1⟩, fun y H2 hy => ?_⟩
  obtain ⟨rfl, hy⟩ := hy
  refine ⟨B', .refl s', ?_⟩
  have := hy xs hS
  rw [e1] at this
  cases this
  exact e2.mono s
theorem PI.or {wi wj : TI} (h1 : PI X tg iter wi) (h2 : PI X tg iter wj) : PI X tg iter fun σ H R => wi σ H R ∨ wj σ H R := ⟨fun pins s σ H R I h => h.elim (h1.run pins s σ H R I) (h2.run pins s σ H R I)⟩
/-- over a list -/
def lstO : D → Option (List D)
  | .list ds => some ds
  | .dict [(.none, .list ds)] => some ds
  | _ => none
def tupO : D → Option (List D)
  | .tuple ds => some ds
  | _ => none
theorem i_list (ha : PE X iter (cV G ow 0 f)) (hK : X.K = G.K := by rfl) : PI X tg iter (cI G ow fun γ => (f γ).bind fun d => oR (lstO d)) := (pi_list ha).impD fun σ H R ⟨B, γ, I, q⟩ => ⟨B, γ, I, q.bind.imp fun d q v B1 H1 x1 hv => by
  obtain ⟨z, ez, q⟩ := q.oR
  unfold lstO at ez
  split at ez
  · cases ez
    cases hv with
    | lst a b =>
      rw [hK]
      exact ⟨_, rfl, ⟨_, .inl (same_rd x1.s a)⟩, q _ B1 H1 x1 (jw_list (.inl a) b)⟩
  · cases ez
    obtain ⟨p, us, rfl, h0, h1, h2⟩ := DnF.rol (k := 0) x1.s hv
    rw [hK]
    exact ⟨_, rfl, ⟨_, h1⟩, q _ B1 H1 x1 (jw_list h0 h2)⟩
  · cases ez⟩
theorem i_tup (ha : PE X iter (cV G ow 0 f)) (hK : X.K = G.K := by rfl) : PI X tg iter (cI G ow fun γ => (f γ).bind fun d => oR (tupO d)) := (pi_tup ha).impD fun σ H R ⟨B, γ, I, q⟩ => ⟨B, γ, I, q.bind.imp fun d q v B1 H1 x1 hv => by
  obtain ⟨z, ez, q⟩ := q.oR
  unfold tupO at ez
  split at ez
  · cases ez
    cases hv with
    | tup a b =>
      rw [hK]
      exact ⟨_, rfl, ⟨_, .inl (.inl (x1.s _ _ a))⟩, q _ B1 H1 x1 (jw_tup (.inl (.inl a)) b)⟩
  · cases ez⟩
/-- over a range -/
def rgD (a b : Int) : List D := (List.range (b - a).toNat).map fun k : Nat => PyData.int (a + k)
theorem jw_rng {K : PySem.W.Frag} {B : Hp} {a : Int} {n : Nat} : JW K B (Itr a n) ((List.range n).map fun k : Nat => PyData.int (a + k)) := fun B' H' s s' i => by
  refine ⟨fun d e => ?_, fun hl => ?_⟩
  · rw [List.getElem?_map] at e
    by_cases hi : i < n
    · rw [List.getElem?_range hi] at e
      cases e
      refine ⟨hi, fun x H2 hx => ?_⟩
      obtain ⟨rfl, rfl⟩ := hx
      exact ⟨B', .refl s', .int _⟩
    · rw [List.getElem?_eq_none (by simpa using hi)] at e
      cases e
  · show n ≤ i
    simpa using hl
abbrev RLIM : Int := 1000000000000000000
def rg1 : List D → Option (List D)
  | [.int j] => if -RLIM ≤ j ∧ j ≤ RLIM then some (rgD 0 j) else none
  | _ => none
def rg2 : List D → Option (List D)
  | [.int i, .int j] => if (-RLIM ≤ i ∧ i ≤ RLIM) ∧ (-RLIM ≤ j ∧ j ≤ RLIM) then some (rgD i j) else none
  | _ => none
variable {fs : Env → Rs (List D)}
theorem i_rg1 {a : Expr} {p : Pos} (ha : PA X [a] (cA G ow 1 fs)) (hg : Gl X "range" := by rfl) (hm : X.mg "range" = none) (hs : starEach [a] X.env = [(false, eval a X.env)] := by rfl) :
    PI X tg (.Call (.Name "range" p) [a] [] pos) (cI G ow fun γ => (fs γ).bind fun ds => oR (rg1 ds)) := (pi_range1 hg hm ha hs).impD fun σ H R ⟨B, γ, I, q⟩ => ⟨B, γ, I, q.bind.imp fun ds q vs B1 H1 x1 hvs => by
  obtain ⟨z, ez, q⟩ := q.oR
  unfold rg1 at ez
  split at ez
  · rename_i j
    split at ez
    · rename_i hc
      cases ez
      cases hvs with
      | cons h t =>
        cases t
        refine ⟨j, by rw [DnF.int h], Int.le_trans (by decide) hc.1, Int.lt_of_le_of_lt hc.2 (by decide), q _ B1 H1 x1 ?_⟩
        show JW _ _ _ (rgD 0 j)
        unfold rgD
        rw [Int.sub_zero]
        exact jw_rng
    · cases ez
  · cases ez⟩
theorem i_rg2 {a b : Expr} {p : Pos} (ha : PA X [a, b] (cA G ow 1 fs)) (hg : Gl X "range" := by rfl) (hm : X.mg "range" = none) (hs : starEach [a, b] X.env = [(false, eval a X.env), (false, eval b X.env)] := by rfl) (hs2 : starEach [b] X.env = [(false, eval b X.env)] := by rfl) :
    PI X tg (.Call (.Name "range" p) [a, b] [] pos) (cI G ow fun γ => (fs γ).bind fun ds => oR (rg2 ds)) := (pi_range2 hg hm ha hs hs2).impD fun σ H R ⟨B, γ, I, q⟩ => ⟨B, γ, I, q.bind.imp fun ds q vs B1 H1 x1 hvs => by
  obtain ⟨z, ez, q⟩ := q.oR
  unfold rg2 at ez
  split at ez
  · rename_i i j
    split at ez
    · rename_i hc
      cases ez
      cases hvs with
      | cons h t =>
        cases t with
        | cons h' t' =>
          cases t'
          exact ⟨i, j, by rw [DnF.int h, DnF.int h'], ⟨Int.le_trans (by decide) hc.1.1, Int.lt_of_le_of_lt hc.1.2 (by decide), Int.le_trans (by decide) hc.2.1, Int.lt_of_le_of_lt hc.2.2 (by decide)⟩, q _ B1 H1 x1 jw_rng⟩
    · cases ez
  · cases ez⟩
/-- zip of two lists -/
def zipD : List D → Option (List D)
  | [.list xs, .list ys] => some ((xs.zip ys).map fun p => .tuple [p.1, p.2])
  | _ => none
theorem jw_zip {K : PySem.W.Frag} {B : Hp} {a b : Addr} {xs ys : List V} {ds es : List D} (h : Rd B a (.lst xs)) (hd : DnAll K B xs ds) (h' : Rd B b (.lst ys)) (hd' : DnAll K B ys es) : JW K B (Itz K a b) ((ds.zip es).map fun p => .tuple [p.1, p.2]) := fun B' H' s s' i => by
  have hS : SqL K H' a xs := .inl (same_rd (s.trans s') h)
  have hS' : SqL K H' b ys := .inl (same_rd (s.trans s') h')
  refine ⟨fun d e => ?_, fun hl => ⟨xs, ys, hS, hS', ?_⟩⟩
  · rw [List.getElem?_map, Option.map_eq_some_iff] at e
    obtain ⟨z, ez, rfl⟩ := e
    obtain ⟨z1, z2⟩ := List.getElem?_zip_eq_some.mp ez
    obtain ⟨u1, u2, u3⟩ := hd.get z1
    obtain ⟨w1, w2, w3⟩ := hd'.get z2
    refine ⟨⟨xs, ys, u1, w1, hS, hS', u2, w2⟩, fun y H2 hy => ?_⟩
    obtain ⟨T, x1, y1, rfl, hT, rfl, k1, k2⟩ := hy
    have e1 := k1 xs hS
    have e2 := k2 ys hS'
    rw [u2] at e1
    rw [w2] at e2
    cases e1
    cases e2
    have sn : Same B' (upd B' T (.tup [u1, w1])) := same_new (same_none s' hT)
    exact ⟨upd B' T (.tup [u1, w1]), .new s' hT, .tup upd_same (.cons (u3.mono (s.trans sn)) (.cons (w3.mono (s.trans sn)) .nil))⟩
  · rw [List.length_map, List.length_zip] at hl
    rw [hd.length, hd'.length]
    omega
theorem i_zip {a b : Expr} {p tpos : Pos} {elts : List Expr} {kk : Nat} (ha : PA X [a, b] (cA G ow 0 fs)) (hg : Gl X "zip" := by rfl) (hm : X.mg "zip" = none) (hs : starEach [a, b] X.env = (false, eval a X.env) :: starEach [b] X.env := by rfl) (hpl : (backTo pos (starEach [b] X.env)).any (·.1) = false := by rfl) (hK : X.K = G.K := by rfl) :
    PI X (.Tuple elts kk tpos) (.Call (.Name "zip" p) [a, b] [] pos) (cI G ow fun γ => (fs γ).bind fun ds => oR (zipD ds)) := (pi_zip hg hm ha hs hpl).impD fun σ H R ⟨B, γ, I, q⟩ => ⟨B, γ, I, q.bind.imp fun ds q vs B1 H1 x1 hvs => by
  obtain ⟨z, ez, q⟩ := q.oR
  unfold zipD at ez
  split at ez
  · rename_i xs ys
    cases ez
    cases hvs with
    | cons h t =>
      cases t with
      | cons h' t' =>
        cases t'
        cases (show Dn G.K B1 _ _ from h) with
        | lst r1 a1 =>
          cases (show Dn G.K B1 _ _ from h') with
          | lst r2 a2 =>
            rw [hK]
            exact ⟨_, _, _, _, rfl, .inl (same_rd x1.s r1), .inl (same_rd x1.s r2), q _ B1 H1 x1 (jw_zip r1 a1 r2 a2)⟩
  · cases ez⟩
/-- enumerate of a list -/
def enumD : List D → Option (List D)
  | [.list xs] => some ((xs.zipIdx).map fun p => .tuple [.int (p.2 : Nat), p.1])
  | _ => none
theorem jw_enum {K : PySem.W.Frag} {B : Hp} {a : Addr} {xs : List V} {ds : List D} (h : Rd B a (.lst xs)) (hd : DnAll K B xs ds) : JW K B (Ite K a) ((ds.zipIdx).map fun p => .tuple [.int (p.2 : Nat), p.1]) := fun B' H' s s' i => by
  have hS : SqL K H' a xs := .inl (same_rd (s.trans s') h)
  refine ⟨fun d e => ?_, fun hl => ⟨xs, hS, ?_⟩⟩
  · rw [List.getElem?_map, List.getElem?_zipIdx, Option.map_map, Option.map_eq_some_iff] at e
    obtain ⟨z, ez, rfl⟩ := e
    obtain ⟨u1, u2, u3⟩ := hd.get ez
    refine ⟨⟨xs, u1, hS, u2⟩, fun y H2 hy => ?_⟩
    obtain ⟨T, x1, rfl, hT, rfl, k1⟩ := hy
    have e1 := k1 xs hS
    rw [u2] at e1
    cases e1
    have sn : Same B' (upd B' T (.tup [.int (i : Nat), u1])) := same_new (same_none s' hT)
    refine ⟨upd B' T (.tup [.int (i : Nat), u1]), .new s' hT, ?_⟩
    show Dn _ _ _ (.tuple [.int ((0 + i : Nat) : Int), z])
    rw [Nat.zero_add]
    exact .tup upd_same (.cons (.int _) (.cons (u3.mono (s.trans sn)) .nil))
  · rw [List.length_map, List.length_zipIdx] at hl
    rw [hd.length]
    exact hl
theorem i_enum {a : Expr} {p tpos : Pos} {elts : List Expr} {kk : Nat} (ha : PA X [a] (cA G ow 0 fs)) (hg : Gl X "enumerate" := by rfl) (hm : X.mg "enumerate" = none) (hs : starEach [a] X.env = [(false, eval a X.env)] := by rfl) (hK : X.K = G.K := by rfl) :
    PI X (.Tuple elts kk tpos) (.Call (.Name "enumerate" p) [a] [] pos) (cI G ow fun γ => (fs γ).bind fun ds => oR (enumD ds)) := (pi_enum hg hm ha hs).impD fun σ H R ⟨B, γ, I, q⟩ => ⟨B, γ, I, q.bind.imp fun ds q vs B1 H1 x1 hvs => by
  obtain ⟨z, ez, q⟩ := q.oR
  unfold enumD at ez
  split at ez
  · rename_i xs
    cases ez
    cases hvs with
    | cons h t =>
      cases t
      cases (show Dn G.K B1 _ _ from h) with
      | lst r1 a1 =>
        rw [hK]
        exact ⟨_, _, rfl, .inl (same_rd x1.s r1), q _ B1 H1 x1 (jw_enum r1 a1)⟩
  · cases ez⟩
/-- reversed of a list -/
def revD : List D → Option (List D)
  | [.list xs] => some xs.reverse
  | _ => none
theorem jw_rev {K : PySem.W.Frag} {B : Hp} {a : Addr} {xs : List V} {ds : List D} (h : Rd B a (.lst xs)) (hd : DnAll K B xs ds) : JW K B (Itv K a xs.length) ds.reverse := fun B' H' s s' i => by
  have hS : SqL K H' a xs := .inl (same_rd (s.trans s') h)
  refine ⟨fun d e => ?_, fun hl => ?_⟩
  · have hi : i < ds.length := by
      by_cases z : i < ds.length
      · exact z
      · rw [List.getElem?_eq_none (by rw [List.length_reverse]; omega)] at e; cases e
    rw [List.getElem?_reverse hi] at e
    obtain ⟨u1, u2, u3⟩ := hd.get e
    rw [← hd.length] at u2
    refine ⟨⟨by rw [hd.length]; exact hi, xs, u1, hS, u2⟩, fun y H2 hy => ?_⟩
    obtain ⟨rfl, hy⟩ := hy
    have e1 := hy xs hS
    rw [u2] at e1
    cases e1
    exact ⟨B', .refl s', u3.mono s⟩
  · show xs.length ≤ i
    rw [List.length_reverse] at hl
    rw [hd.length]
    exact hl
theorem i_rev {a : Expr} {p : Pos} (ha : PA X [a] (cA G ow 0 fs)) (hg : Gl X "reversed" := by rfl) (hm : X.mg "reversed" = none) (hs : starEach [a] X.env = [(false, eval a X.env)] := by rfl) (hK : X.K = G.K := by rfl) :
    PI X tg (.Call (.Name "reversed" p) [a] [] pos) (cI G ow fun γ => (fs γ).bind fun ds => oR (revD ds)) := (pi_reversed hg hm ha hs).impD fun σ H R ⟨B, γ, I, q⟩ => ⟨B, γ, I, q.bind.imp fun ds q vs B1 H1 x1 hvs => by
  obtain ⟨z, ez, q⟩ := q.oR
  unfold revD at ez
  split at ez
  · rename_i xs
    cases ez
    cases hvs with
    | cons h t =>
      cases t
      cases (show Dn G.K B1 _ _ from h) with
      | lst r1 a1 =>
        rw [hK]
        exact ⟨_, _, rfl, .inl (same_rd x1.s r1), q _ B1 H1 x1 (jw_rev r1 a1)⟩
  · cases ez⟩
/-- over the signs of a text -/
def sgnO : D → Option (List D)
  | .str z => some (z.cps.toList.map fun c => .str ⟨#[c]⟩)
  | _ => none
theorem i_str (ha : PE X iter (cV G ow 1 f)) : PI X tg iter (cI G ow fun γ => (f γ).bind fun d => oR (sgnO d)) := (pi_str ha).impD fun σ H R ⟨B, γ, I, q⟩ => ⟨B, γ, I, q.bind.imp fun d q v B1 H1 x1 hv => by
  obtain ⟨z, ez, q⟩ := q.oR
  unfold sgnO at ez
  split at ez
  · rename_i t
    cases ez
    refine ⟨t, hv.str, q _ B1 H1 x1 fun B' H' s s' i => ⟨fun d e => ?_, fun hl => ?_⟩⟩
    · rw [List.getElem?_map, Option.map_eq_some_iff] at e
      obtain ⟨c, ec, rfl⟩ := e
      have ec' : t.cps[i]? = some c := by rw [← Array.getElem?_toList]; exact ec
      have hi : i < t.cps.size := by
        by_cases z : i < t.cps.size
        · exact z
        · rw [Array.getElem?_eq_none (by omega)] at ec'; cases ec'
      refine ⟨hi, fun x H2 hx => ?_⟩
      obtain ⟨rfl, c', e1, rfl⟩ := hx
      rw [ec'] at e1
      cases e1
      exact ⟨B', .refl s', .str _⟩
    · show t.cps.size ≤ i
      simpa using hl
  · cases ez⟩

/-! ### for, while -/
def forS (t : D → Env → Option Env) (b : Env → Out) : List D → Env → Out
  | [], γ => .nx γ
  | d :: ds, γ => match t d γ with
    | none => .no
    | some γ1 => match b γ1 with
      | .nx γ2 => forS t b ds γ2
      | .ct γ2 => forS t b ds γ2
      | .bk γ2 => .nx γ2
      | o => o
theorem s_for {body : List Stmt} {fi : Env → Rs (List D)} {t : D → Env → Option Env} {b : Env → Out} (hp : PassesOwn (model X.prog X.w) X.A X.env X.xe) (hi : PI X tg iter (cI G ow fi)) (hg : PG X tg (cG G ow vs t)) (hb : PSs X body (cS G ow ow ow b)) (hc : X.calm = true := by rfl)
    (hs : ∀ x, foldedSetIterable iter X.env x = pure x := by intro _; rfl) : PS X (.For tg iter body [] pos) (cS G ow ow owL fun γ => liftS (fi γ) γ fun ds => forS t b ds γ) :=
  (ps_for hp hc hi hg hb hs).impD fun J σ H ⟨B, γ, I, q⟩ => ⟨B, γ, I, (OutP.lift I q).imp fun ds q Jt B1 H1 x1 jw => by
    refine ⟨fun i m σ' H' => i ≤ ds.length ∧ m = ds.length - i ∧ ∃ B' γ', Same B1 B' ∧ EnvR G ow B' H' σ' γ' ∧ OutP G ow owL B' J (forS t b (ds.drop i) γ'), ⟨ds.length, Nat.zero_le _, by omega, B1, γ, .refl _, I.mono x1, OutP.mono x1.b q⟩, fun i m σ' H' hW => ?_⟩
    obtain ⟨hi, rfl, B', γ', s', I', q'⟩ := hW
    obtain ⟨j1, j2⟩ := jw B' H' s' I'.s i
    by_cases hlt : i < ds.length
    · obtain ⟨jg, jy⟩ := j1 _ (List.getElem?_eq_getElem hlt)
      refine .inr ⟨jg, fun σ2 H2 => ∃ B2 γ2, Same B1 B2 ∧ EnvR G ow B2 H2 σ2 γ2 ∧ OutP G ow owL B2 J (forS t b (ds.drop (i + 1)) γ2), fun σ2 H2 hN => ⟨ds.length - (i + 1), by omega, by omega, rfl, hN⟩, fun x H2 hy => ?_⟩
      obtain ⟨B2, x2, hx⟩ := jy x H2 hy
      rw [List.drop_eq_getElem_cons hlt] at q'
      unfold forS at q'
      cases ht : t ds[i] γ' with
      | none => rw [ht] at q'; exact q'.elim
      | some γ1 =>
        rw [ht] at q'
        dsimp only at q'
        refine ⟨B2, γ', ds[i], γ1, I'.mono x2, hx, ht, fun σ3 _ I3 => ⟨B2, γ1, I3, ?_⟩⟩
        cases hbo : b γ1 with
        | nx γ2 =>
          rw [hbo] at q'
          exact fun B4 σ4 H4 s4 I4 => ⟨B4, γ2, s'.trans (x2.b.trans s4), I4, OutP.mono (x2.b.trans s4) q'⟩
        | ct γ2 =>
          rw [hbo] at q'
          exact fun B4 σ4 H4 s4 I4 => ⟨B4, γ2, s'.trans (x2.b.trans s4), I4, OutP.mono (x2.b.trans s4) q'⟩
        | bk γ2 =>
          rw [hbo] at q'
          exact fun B4 σ4 H4 s4 I4 => q' B4 σ4 H4 (x2.b.trans s4) I4
        | rt d => rw [hbo] at q'; exact OutP.mono (o := .rt d) x2.b q'
        | er c fs γ => rw [hbo] at q'; exact OutP.mono (o := .er c fs γ) x2.b q'
        | no => rw [hbo] at q'; exact q'
    · refine .inl ⟨j2 (by omega), ?_⟩
      rw [List.drop_eq_nil_of_le (by omega)] at q'
      exact q' B' σ' H' (.refl _) I'⟩
def whileS (t : Env → Rs Bool) (b : Env → Out) : Nat → Env → Out
  | 0, _ => .no
  | n + 1, γ => liftS (t γ) γ fun c => if c = true then
      match b γ with
      | .nx γ2 => whileS t b n γ2
      | .ct γ2 => whileS t b n γ2
      | .bk γ2 => .nx γ2
      | o => o
    else .nx γ
/-- turns enough for any loop -/
def FUEL : Nat := 10 ^ 100
theorem s_while {c : Expr} {body : List Stmt} {t : Env → Rs Bool} {b : Env → Out} (hp : PassesOwn (model X.prog X.w) X.A X.env X.xe) (hc : PT X c (cT G ow t)) (hb : PSs X body (cS G ow ow ow b)) :
    PS X (.While c body [] pos) (cS G ow ow owL fun γ => whileS t b FUEL γ) :=
  (ps_while hp hc hb).impD fun J σ H ⟨B, γ, I, q⟩ => by
    refine ⟨fun m σ' H' => ∃ B' γ', EnvR G ow B' H' σ' γ' ∧ OutP G ow owL B' J (whileS t b m γ'), ⟨FUEL, B, γ, I, q⟩, fun m σ' H' hW => ?_⟩
    obtain ⟨B', γ', I', q'⟩ := hW
    cases m with
    | zero => exact q'.elim
    | succ m =>
      unfold whileS at q'
      refine ⟨B', γ', I', (OutP.lift I' q').imp fun c q B1 H1 x1 => ?_⟩
      cases c with
      | false => exact (show OutP G ow owL B' J (.nx γ') from q) B1 σ' H1 x1.b (I'.mono x1)
      | true =>
        rw [if_pos rfl] at q ⊢
        refine ⟨fun σ2 H2 => ∃ B2 γ2, EnvR G ow B2 H2 σ2 γ2 ∧ OutP G ow owL B2 J (whileS t b m γ2), fun σ2 H2 hN => ⟨m, by omega, hN⟩, B1, γ', I'.mono x1, ?_⟩
        cases hbo : b γ' with
        | nx γ2 =>
          rw [hbo] at q
          exact fun B4 σ4 H4 s4 I4 => ⟨B4, γ2, I4, OutP.mono (x1.b.trans s4) q⟩
        | ct γ2 =>
          rw [hbo] at q
          exact fun B4 σ4 H4 s4 I4 => ⟨B4, γ2, I4, OutP.mono (x1.b.trans s4) q⟩
        | bk γ2 =>
          rw [hbo] at q
          exact fun B4 σ4 H4 s4 I4 => q B4 σ4 H4 (x1.b.trans s4) I4
        | rt d => rw [hbo] at q; exact OutP.mono (o := .rt d) x1.b q
        | er c fs γ => rw [hbo] at q; exact OutP.mono (o := .er c fs γ) x1.b q
        | no => rw [hbo] at q; exact q
end
end DL
set_option Elab.async false
set_option linter.all false
set_option maxRecDepth 100000
set_option maxHeartbeats 4000000
/-! The data layer: comprehensions, calls of built-ins and of the program's own defs. -/
namespace DL
open PySem PySem.Spec PyProof.Rows L2

/-! ### comprehensions -/
def wipeE (γ : Env) : List Nat → Env
  | [] => γ
  | v :: vs => (wipeE γ vs).set v none
theorem wipeE_length (γ : Env) : ∀ vs : List Nat, (wipeE γ vs).length = γ.length
  | [] => rfl
  | v :: vs => by unfold wipeE; rw [List.length_set, wipeE_length γ vs]
theorem wipeE_some {γ : Env} {i : Nat} {d : D} : ∀ {vs : List Nat}, (wipeE γ vs)[i]? = some (some d) → γ[i]? = some (some d) ∧ i ∉ vs
  | [], h => ⟨h, by simp⟩
  | v :: vs, h => by
    unfold wipeE at h
    by_cases e : i = v
    · subst e
      by_cases hl : i < (wipeE γ vs).length
      · rw [List.getElem?_set_self hl] at h; cases h
      · rw [List.getElem?_eq_none (by rw [List.length_set]; omega)] at h; cases h
    · rw [List.getElem?_set_ne (Ne.symm e)] at h
      obtain ⟨h1, h2⟩ := wipeE_some h
      exact ⟨h1, by simp [e, h2]⟩
/-- no exception may leave -/
abbrev Gd.mute (G : Gd) : Gd := { G with W := fun _ _ _ _ => False }
theorem EnvR.mute {G : Gd} {ow : List Nat} {B H : Hp} {σ : L2.St} {γ : Env} (I : EnvR G ow B H σ γ) : EnvR G.mute ow B H σ γ := ⟨I.s, I.e, I.len, I.x, I.v⟩
theorem EnvR.unmute {G : Gd} {ow : List Nat} {B H : Hp} {σ : L2.St} {γ : Env} (I : EnvR G.mute ow B H σ γ) : EnvR G ow B H σ γ := ⟨I.s, I.e, I.len, I.x, I.v⟩
theorem EnvR.wipe {G : Gd} {ow : List Nat} {B H : Hp} {σ : L2.St} {γ : Env} (I : EnvR G ow B H σ γ) (hx : G.x = none) (vs : List Nat) : EnvR G ow B H (L2.wipe σ vs) (wipeE γ vs) := by
  refine I.sub (fun t z => by rw [hx] at z; cases z) (by rw [wipeE_length, wipe_length, I.len]) fun i d e => ?_
  obtain ⟨e1, e2⟩ := wipeE_some e
  exact ⟨e1, fun v hv => by rw [wipe_out e2]; exact hv⟩
def noEr {α : Type} : Rs α → Rs α
  | .ok a => .ok a
  | _ => .no
@[simp] theorem noEr_ok {α : Type} (a : α) : noEr (.ok a) = .ok a := Eq.trans (Eq.refl _) rfl
def compL (t : D → Env → Option Env) (c : Env → Rs Bool) (f : Env → Rs D) : List D → Env → Rs (List D)
  | [], _ => .ok []
  | d :: ds, γ => match t d γ with
    | none => .no
    | some γ1 => (noEr (c γ1)).bind fun b => if b = true then (noEr (f γ1)).bind fun y => (compL t c f ds γ).map fun ys => y :: ys else compL t c f ds γ
theorem noEr_er {α : Type} {x : Rs α} {c : Str} {fs : List (Str × D)} : noEr x ≠ .er c fs := by cases x <;> exact fun z => nomatch z
theorem compL_er {t : D → Env → Option Env} {c : Env → Rs Bool} {f : Env → Rs D} {n : Str} {fs : List (Str × D)} : ∀ {ds : List D} {γ : Env}, compL t c f ds γ ≠ .er n fs
  | [], _ => fun z => nomatch z
  | d :: ds, γ => by
    unfold compL
    cases t d γ with
    | none => exact fun z => nomatch z
    | some γ1 =>
      dsimp only
      cases hc : noEr (c γ1) with
      | er _ _ => exact absurd hc noEr_er
      | no => exact fun z => nomatch z
      | ok b =>
        cases b with
        | false => exact compL_er (ds := ds)
        | true =>
          show (noEr (f γ1)).bind _ ≠ _
          cases hf : noEr (f γ1) with
          | er _ _ => exact absurd hf noEr_er
          | no => exact fun z => nomatch z
          | ok y =>
            show (compL t c f ds γ).map _ ≠ _
            cases hr : compL t c f ds γ with
            | er _ _ => exact absurd hr compL_er
            | no => exact fun z => nomatch z
            | ok ys => exact fun z => nomatch z
theorem noEr_some {α : Type} {x : Rs α} {a : α} (h : noEr x = .ok a) : x = .ok a := by cases x <;> first | exact h | cases h
/-- one turn -/
theorem compL_cons {t : D → Env → Option Env} {c : Env → Rs Bool} {f : Env → Rs D} {d : D} {ds zs : List D} {γ : Env} (h : compL t c f (d :: ds) γ = .ok zs) :
    ∃ γ1, t d γ = some γ1 ∧ ∃ b, c γ1 = .ok b ∧ ((b = true ∧ ∃ y ys, f γ1 = .ok y ∧ compL t c f ds γ = .ok ys ∧ zs = y :: ys) ∨ (b = false ∧ compL t c f ds γ = .ok zs)) := by
  unfold compL at h
  cases ht : t d γ with
  | none => rw [ht] at h; cases h
  | some γ1 =>
    rw [ht] at h
    dsimp only at h
    cases hc : noEr (c γ1) with
    | er _ _ => rw [hc] at h; cases h
    | no => rw [hc] at h; cases h
    | ok b =>
      rw [hc] at h
      refine ⟨γ1, rfl, b, noEr_some hc, ?_⟩
      cases b with
      | false => exact .inr ⟨rfl, h⟩
      | true =>
        left
        replace h : (noEr (f γ1)).bind _ = _ := h
        cases hf : noEr (f γ1) with
        | er _ _ => rw [hf] at h; cases h
        | no => rw [hf] at h; cases h
        | ok y =>
          rw [hf] at h
          replace h : (compL t c f ds γ).map _ = _ := h
          cases hr : compL t c f ds γ with
          | er _ _ => rw [hr] at h; cases h
          | no => rw [hr] at h; cases h
          | ok ys =>
            rw [hr] at h
            cases h
            exact ⟨rfl, y, ys, noEr_some hf, rfl, rfl⟩
def compR (vs : List Nat) (t : D → Env → Option Env) (c : Env → Rs Bool) (f : Env → Rs D) (ds : List D) (γ : Env) : Rs (List D) := (compL t c f ds (wipeE γ vs)).bind fun zs => oR (szL zs)
theorem Ext.wrh {B H B' H' : Hp} {p : Addr} {o : HO} (x : Ext B H B' H') (h : H p = none) (hb : B' p = none) : Ext B H B' (upd H' p o) :=
  ⟨x.b, fun a u e => by rw [upd_ne (ne_of_none e h)]; exact x.h a u e, fun a u e => by rw [upd_ne (ne_of_none e hb)]; exact x.s a u e, x.n⟩
section
variable {X : Cx} {elt tg iter : Expr} {ifs : List Expr} {pos : Pos} {G : Gd} {ow owL : List Nat}
theorem lc_imp {K : PySem.W.Frag} {vs : List Nat} {t : D → Env → Option Env} {c : Env → Rs Bool} {f : Env → Rs D} {fi : Env → Rs (List D)} (hg : G.x = none) {σ : L2.St} {H : Hp} {Q : VK} (h : cN G ow (fun γ => (fi γ).bind fun ds => compR vs t c f ds γ) σ H Q) :
    tLc (cI G ow fi) (cG G.mute ow vs t) (cT G.mute ow c) (cV G.mute ow 0 f) vs σ H Q := by
  obtain ⟨B, γ, I, q⟩ := h
  refine ⟨B, γ, I, q.bind.imp fun ds q J B1 H1 x1 jw => fun Da hDa => ?_⟩
  unfold compR at q
  cases hr : compL t c f ds (wipeE γ vs) with
  | er _ _ => exact absurd hr compL_er
  | no => rw [hr] at q; exact q.elim
  | ok zs =>
    rw [hr] at q
    obtain ⟨zs', ez, q9⟩ := RsP.oR (show RsP G σ B H (oR (szL zs)) _ from q)
    obtain ⟨hl, e9⟩ := szL_some ez
    subst e9
    refine ⟨fun i m H' => i ≤ ds.length ∧ m = ds.length - i ∧ ∃ B' dn rs acc, Ext B1 H1 B' H' ∧ B' Da = none ∧ H' Da = some (.lst acc) ∧ DnAll G.K B' acc dn ∧ compL t c f (ds.drop i) (wipeE γ vs) = .ok rs ∧ dn ++ rs = zs',
      ⟨ds.length, Nat.zero_le _, by omega, B1, [], zs', [], .hid x1.s hDa, same_none x1.s hDa, upd_same, .nil, hr, rfl⟩, fun i m H' hW => ?_⟩
    obtain ⟨hi, rfl, B', dn, rs, acc, xx, hb, hl', hd, hc, he⟩ := hW
    obtain ⟨j1, j2⟩ := jw B' H' xx.b xx.s i
    by_cases hlt : i < ds.length
    · obtain ⟨jg, jy⟩ := j1 _ (List.getElem?_eq_getElem hlt)
      refine .inr ⟨jg, fun H2 => ∃ B2 dn rs acc, Ext B1 H1 B2 H2 ∧ B2 Da = none ∧ H2 Da = some (.lst acc) ∧ DnAll G.K B2 acc dn ∧ compL t c f (ds.drop (i + 1)) (wipeE γ vs) = .ok rs ∧ dn ++ rs = zs', fun H2 hN => ⟨ds.length - (i + 1), by omega, by omega, rfl, hN⟩, fun x H2 hy => ?_⟩
      obtain ⟨B2, x2, hx⟩ := jy x H2 hy
      rw [List.drop_eq_getElem_cons hlt] at hc
      obtain ⟨γ1, ht, b, hcb, hrest⟩ := compL_cons hc
      have keepD : ∀ {B3 H3 : Hp}, Ext B' H' B3 H3 → B3 Da = none ∧ H3 Da = some (.lst acc) := fun y => ⟨y.n Da hb (nt_lst hl'), y.h _ _ hl'⟩
      refine ⟨B2, wipeE γ vs, ds[i], γ1, ((I.mono (x1.trans (xx.trans x2))).mute).wipe hg vs, hx, ht, fun σ3 hw3 I3 => ⟨hw3.trans (wipe_wipe _ _), B2, γ1, I3, ?_⟩⟩
      rw [hcb]
      intro B3 H3 x3
      rcases hrest with ⟨rfl, y, ys, hy1, hy2, rfl⟩ | ⟨rfl, hy2⟩
      · rw [if_pos rfl]
        refine ⟨B3, γ1, I3.mono x3, ?_⟩
        rw [hy1]
        intro v B4 H4 x4 hv
        obtain ⟨k1, k2⟩ := keepD ((x2.trans x3).trans x4)
        refine ⟨acc, k2, ?_, B4, dn ++ [y], ys, acc ++ [v], (xx.trans ((x2.trans x3).trans x4)).wrh hDa k1, k1, upd_same, (hd.mono ((x2.trans x3).trans x4).b).append (.cons hv .nil), hy2, ?_⟩
        · rw [hd.length]
          refine lim_lt ?_
          have : zs'.length = dn.length + (ys.length + 1) := by rw [← he, List.length_append, List.length_cons]
          omega
        · rw [List.append_assoc]; exact he
      · rw [if_neg (by decide)]
        obtain ⟨k1, k2⟩ := keepD (x2.trans x3)
        exact ⟨B3, dn, rs, acc, xx.trans (x2.trans x3), k1, k2, hd.mono (x2.trans x3).b, hy2, he⟩
    · refine .inl ⟨j2 (by omega), ?_⟩
      rw [List.drop_eq_nil_of_le (by omega)] at hc
      cases hc
      rw [List.append_nil] at he
      subst he
      exact q9 Da acc B' H' (x1.trans xx) (x1.h.free hDa) hb hl' hd
def tsYes : Env → Rs Bool := fun _ => .ok true
theorem ts_nil {X : Cx} {G : Gd} : PTs X [] (cT G ow tsYes) := ⟨fun pins s σ H Q I q => pts_nil.run pins s σ H Q I (by
  obtain ⟨B, γ, I', q⟩ := q
  exact (show ∀ B' H', Ext B H B' H' → Q true H' from q) B H (.refl I'.s))⟩
theorem ts_one {X : Cx} {G : Gd} {c : Expr} {t : Env → Rs Bool} (h : PT X c (cT G ow t)) : PTs X [c] (cT G ow t) := pts_one h
variable {scope : Scope} {own : List (Str × Nat)} {t : D → Env → Option Env} {c : Env → Rs Bool} {f : Env → Rs D} {fi : Env → Rs (List D)}
theorem n_lc (own : List (Str × Nat)) (hN : X.N.Nodup) (hi : PI X tg iter (cI G ow fi)) (ok : BlkOk X.N X.env.scope scope own)
    (hg : ∀ (s : Shared) (H : Hp) (C : Addr) (cl : List (Str × Addr)) (fp : List Addr), PG (X.blk s H scope (compEnvC scope cl C X.env) fp) tg (cG G.mute ow (own.map (·.2)) t)) (ht : ∀ (s : Shared) (H : Hp) (C : Addr) (cl : List (Str × Addr)) (fp : List Addr), PTs (X.blk s H scope (compEnvC scope cl C X.env) fp) ifs (cT G.mute ow c))
    (he : ∀ (s : Shared) (H : Hp) (C : Addr) (cl : List (Str × Addr)) (fp : List Addr), PE (X.blk s H scope (compEnvC scope cl C X.env) fp) elt (cV G.mute ow 0 f)) (hc : X.calm = true := by rfl) (hx : G.x = none := by rfl) (hs : ∀ x, foldedSetIterable iter X.env x = pure x := by intro _; rfl) :
    PE X (.ListComp elt [⟨tg, iter, ifs, 0⟩] scope pos) (cN G ow fun γ => (fi γ).bind fun ds => compR (own.map (·.2)) t c f ds γ) := (pe_lc hc hN hi ok hg ht he hs).impD fun σ H Q q => lc_imp (K := X.K) hx q
theorem s_setLc {ow' : List Nat} {y : Str} {py spos : Pos} (i : Nat) (own : List (Str × Nat)) (hN : X.N.Nodup) (hi : PI X tg iter (cI G ow fi)) (ok : BlkOk X.N X.env.scope scope own)
    (hg : ∀ (s : Shared) (H : Hp) (C : Addr) (cl : List (Str × Addr)) (fp : List Addr), PG (X.blk s H scope (compEnvC scope cl C X.env) fp) tg (cG G.mute ow (own.map (·.2)) t)) (ht : ∀ (s : Shared) (H : Hp) (C : Addr) (cl : List (Str × Addr)) (fp : List Addr), PTs (X.blk s H scope (compEnvC scope cl C X.env) fp) ifs (cT G.mute ow c))
    (he : ∀ (s : Shared) (H : Hp) (C : Addr) (cl : List (Str × Addr)) (fp : List Addr), PE (X.blk s H scope (compEnvC scope cl C X.env) fp) elt (cV G.mute ow 0 f)) (hsw : swapsWith (.ListComp elt [⟨tg, iter, ifs, 0⟩] scope pos) (some (.Name y py)) spos.line X.env = pure true)
    (hw : ow.set i 0 = ow' := by rfl) (hy : X.N[i]? = some y := by rfl) (hyl : X.env.scope.names.lookup y = some .local := by rfl) (hc : X.calm = true := by rfl) (hx : G.x = none := by rfl) (hs : ∀ x, foldedSetIterable iter X.env x = pure x := by intro _; rfl) :
    PS X (.Assign [.Name y py] (.ListComp elt [⟨tg, iter, ifs, 0⟩] scope pos) spos) (cS G ow ow' owL fun γ => liftS ((fi γ).bind fun ds => compR (own.map (·.2)) t c f ds γ) γ fun ds => .nx (γ.set i (some (.list ds)))) :=
  (ps_setLc hc hN hy hyl hsw hi ok hg ht he hs).impD fun J σ H ⟨B, γ, I, q⟩ => lc_imp (K := X.K) hx ⟨B, γ, I, (q.lift I).imp fun ds q p xs B1 H1 x1 hp hb hl hd => by
    refine q (upd B1 p (.lst xs)) _ H1 (x1.b.trans (same_new hb)) ?_
    rw [← hw]
    exact (I.mono (x1.shown hp hb hl)).set i hx (.lst (.inl upd_same) (hd.mono (same_new hb)))⟩
theorem s_newLc {ow' : List Nat} {y : Str} {py spos : Pos} (i : Nat) (own : List (Str × Nat)) (hN : X.N.Nodup) (hi : PI X tg iter (cI G ow fi)) (ok : BlkOk X.N X.env.scope scope own)
    (hg : ∀ (s : Shared) (H : Hp) (C : Addr) (cl : List (Str × Addr)) (fp : List Addr), PG (X.blk s H scope (compEnvC scope cl C X.env) fp) tg (cG G.mute ow (own.map (·.2)) t)) (ht : ∀ (s : Shared) (H : Hp) (C : Addr) (cl : List (Str × Addr)) (fp : List Addr), PTs (X.blk s H scope (compEnvC scope cl C X.env) fp) ifs (cT G.mute ow c))
    (he : ∀ (s : Shared) (H : Hp) (C : Addr) (cl : List (Str × Addr)) (fp : List Addr), PE (X.blk s H scope (compEnvC scope cl C X.env) fp) elt (cV G.mute ow 0 f)) (hsw : swapsWith (.ListComp elt [⟨tg, iter, ifs, 0⟩] scope pos) (some (.Name y py)) spos.line X.env = pure true)
    (hw : ow.set i 1 = ow' := by rfl) (hlt : i < ow.length := by decide) (hy : X.N[i]? = some y := by rfl) (hyl : X.env.scope.names.lookup y = some .local := by rfl) (hc : X.calm = true := by rfl) (hx : G.x = none := by rfl) (hs : ∀ x, foldedSetIterable iter X.env x = pure x := by intro _; rfl) :
    PS X (.Assign [.Name y py] (.ListComp elt [⟨tg, iter, ifs, 0⟩] scope pos) spos) (cS G ow ow' owL fun γ => liftS ((fi γ).bind fun ds => compR (own.map (·.2)) t c f ds γ) γ fun ds => .nx (γ.set i (some (.list ds)))) :=
  (ps_setLc hc hN hy hyl hsw hi ok hg ht he hs).impD fun J σ H ⟨B, γ, I, q⟩ => lc_imp (K := X.K) hx ⟨B, γ, I, (q.lift I).imp fun ds q p xs B1 H1 x1 hp hb hl hd => by
    refine q B1 _ H1 x1.b ?_
    rw [← hw]
    exact I.setN i hx hlt x1 hp hb hl hd⟩
end

/-! ### calls of built-ins -/
structure HC (K : PySem.W.Frag) (r : List V → Hp → VK → Prop) (P : List D → D → Prop) : Prop where
  run : ∀ {B H : Hp} {vs : List V} {ds : List D} {z : D} {Q : VK}, Same B H → Paired (DnF K B H 1) vs ds → P ds z → (∀ v B' H', Ext B H B' H' → Dn K B' v z → Q v H') → r vs H Q
theorem HC.or {K : PySem.W.Frag} {r1 r2 : List V → Hp → VK → Prop} {P1 P2 : List D → D → Prop} (h1 : HC K r1 P1) (h2 : HC K r2 P2) : HC K (fun xs H Q => r1 xs H Q ∨ r2 xs H Q) fun d z => P1 d z ∨ P2 d z :=
  ⟨fun s hx hz q => hz.elim (fun hz => .inl (h1.run s hx hz q)) fun hz => .inr (h2.run s hx hz q)⟩
theorem HC.impP {K : PySem.W.Frag} {r : List V → Hp → VK → Prop} {P P' : List D → D → Prop} (h : HC K r P) (hi : ∀ d z, P' d z → P d z) : HC K r P' := ⟨fun s hx hz q => h.run s hx (hi _ _ hz) q⟩
section
variable {X : Cx} {x : Str} {p pos : Pos} {e : Expr} {es : List Expr} {G : Gd} {ow : List Nat} {fs : Env → Rs (List D)} {r : List V → Hp → VK → Prop} {F : List D → Option D}
theorem cb_imp (hr : HC G.K r fun ds z => F ds = some z) {σ : L2.St} {H : Hp} {Q : VK} (h : cV G ow 0 (fun γ => (fs γ).bind fun ds => oR (F ds)) σ H Q) : tCB r (cA G ow 1 fs) σ H Q := by
  obtain ⟨B, γ, I, q⟩ := h
  refine ⟨B, γ, I, q.bind.imp fun ds q vs B1 H1 x1 hvs => ?_⟩
  obtain ⟨z, ez, q⟩ := q.oR
  exact hr.run x1.s hvs ez fun v B2 H2 x2 hv => q v B2 H2 (x1.trans x2) hv
theorem d_callB {id : String} (hr : HC G.K r fun ds z => F ds = some z) (hc : CallR X (.builtin id) r) (hm : X.mg x = none) (hv : bootBuiltins x = some (.builtin id)) (ha : PA X (e :: es) (cA G ow 1 fs)) (hg : Gl X x := by rfl) (hn : x ≠ "__name__" := by decide) (hdb : (x == ("__debug__" : Str)) = false := by decide)
    (he : starEach (e :: es) X.env = (false, eval e X.env) :: starEach es X.env := by rfl) (hpl : (backTo pos (starEach es X.env)).any (·.1) = false := by rfl) :
    PE X (.Call (.Name x p) (e :: es) [] pos) (cV G ow 0 fun γ => (fs γ).bind fun ds => oR (F ds)) := (pe_callB hc hg hm hv ha hn hdb he hpl).impD fun σ H Q q => cb_imp hr q
theorem d_callT {T : String} (hr : HC G.K r fun ds z => F ds = some z) (hc : CallR X (.type T) r) (hm : X.mg x = none) (hv : bootBuiltins x = some (.type T)) (ha : PA X (e :: es) (cA G ow 1 fs)) (hg : Gl X x := by rfl) (hn : x ≠ "__name__" := by decide) (hdb : (x == ("__debug__" : Str)) = false := by decide)
    (he : starEach (e :: es) X.env = (false, eval e X.env) :: starEach es X.env := by rfl) (hpl : (backTo pos (starEach es X.env)).any (·.1) = false := by rfl) :
    PE X (.Call (.Name x p) (e :: es) [] pos) (cV G ow 0 fun γ => (fs γ).bind fun ds => oR (F ds)) := (pe_callTy hc hg hm hv ha hn hdb he hpl).impD fun σ H Q q => cb_imp hr q
/-! len -/
def lenSq : List D → Option D
  | [.list ds] => some (.int (ds.length : Nat))
  | [.dict [(.none, .list ds)]] => some (.int (ds.length : Nat))
  | [.tuple ds] => some (.int (ds.length : Nat))
  | _ => none
def lenSt : List D → Option D
  | [.str z] => if z.length ≤ LIM then some (.int (z.length : Nat)) else none
  | _ => none
def isRol : List (D × D) → Bool
  | [(.none, .list _)] => true
  | [(.bool true, .dict _)] => true
  | [(.bool false, .tuple _)] => true
  | [(.bool false, .int _)] => true
  | _ => false
def lenDi : List D → Option D
  | [.dict es] => if isRol es = true then none else some (.int (es.length : Nat))
  | _ => none
def lenD : List D → Option D
  | [.list ds] => some (.int (ds.length : Nat))
  | [.dict [(.none, .list ds)]] => some (.int (ds.length : Nat))
  | [.tuple ds] => some (.int (ds.length : Nat))
  | [.str z] => if z.length ≤ LIM then some (.int (z.length : Nat)) else none
  | [.dict es] => if isRol es = true then none else some (.int (es.length : Nat))
  | _ => none
theorem lenD_or {ds : List D} {z : D} (h : lenD ds = some z) : (lenSq ds = some z ∨ lenSt ds = some z) ∨ lenDi ds = some z := by
  unfold lenD at h
  split at h
  · exact .inl (.inl h)
  · exact .inl (.inl h)
  · exact .inl (.inl h)
  · exact .inl (.inr h)
  · exact .inr h
  · cases h
theorem kv_len {K : PySem.W.Frag} {H : Hp} : ∀ {kvs : List (Key × V)} {es : List (D × D)}, DnKv K H kvs es → kvs.length = es.length
  | _, _, .nil => rfl
  | _, _, .cons _ t => by rw [List.length_cons, List.length_cons, kv_len t]
theorem kt_len {K : PySem.W.Frag} {H : Hp} : ∀ {kvs : List (List Key × V)} {es : List (D × D)}, DnKt K H kvs es → kvs.length = es.length
  | _, _, .nil => rfl
  | _, _, .cons _ t => by rw [List.length_cons, List.length_cons, kt_len t]
theorem hc_lenSq {K : PySem.W.Frag} : HC K (fun xs H Q => ∃ p ys, xs = [.ref p] ∧ (SqL K H p ys ∨ SqT K H p ys) ∧ Q (.int ys.length) H) fun ds z => lenSq ds = some z := by
  refine ⟨?_⟩
  intro B H vs ds z Q s hx hz q
  unfold lenSq at hz
  split at hz
  · rename_i es
    cases hz
    cases hx with
    | cons h t =>
      cases t
      obtain ⟨p, us, rfl, h1, h2⟩ := DnF.items s h
      exact ⟨p, us, rfl, .inl (.inl h1), by rw [paired_len h2]; exact q _ B H (.refl s) (.int _)⟩
  · rename_i es
    cases hz
    cases hx with
    | cons h t =>
      cases t
      obtain ⟨p, us, rfl, _, h1, h2⟩ := DnF.rol s h
      exact ⟨p, us, rfl, .inl h1, by rw [h2.length]; exact q _ B H (.refl s) (.int _)⟩
  · rename_i es
    cases hz
    cases hx with
    | cons h t =>
      cases t
      obtain ⟨p, us, rfl, h1, h2⟩ := DnF.tups s h
      exact ⟨p, us, rfl, .inr h1, by rw [h2.length]; exact q _ B H (.refl s) (.int _)⟩
  · cases hz
theorem hc_lenSt {K : PySem.W.Frag} : HC K (fun xs H Q => ∃ z, xs = [.str z] ∧ z.length ≤ sizeLine ∧ Q (.int z.length) H) fun ds z => lenSt ds = some z := by
  refine ⟨?_⟩
  intro B H vs ds z Q s hx hz q
  unfold lenSt at hz
  split at hz
  · rename_i t
    split at hz
    · rename_i hc
      cases hz
      cases hx with
      | cons h t' =>
        cases t'
        exact ⟨t, by rw [DnF.str h], lim_le hc, q _ B H (.refl s) (.int _)⟩
    · cases hz
  · cases hz
theorem hc_lenDi {K : PySem.W.Frag} : HC K (fun xs H Q => (∃ a kvs, xs = [V.ref a] ∧ H a = some (.dK kvs) ∧ Q (.int (kvs.length : Nat)) H) ∨ rLenT xs H Q) fun ds z => lenDi ds = some z := by
  refine ⟨?_⟩
  intro B H vs ds z Q s hx hz q
  unfold lenDi at hz
  split at hz
  · rename_i es
    split at hz
    · cases hz
    rename_i hro
    cases hz
    cases hx with
    | cons h t' =>
      cases t'
      have h' := DnF.flu s h
      cases h' with
      | rol a b => exact absurd rfl hro
      | lkk a b => exact absurd rfl hro
      | lkt a b => exact absurd rfl hro
      | rng a => exact absurd rfl hro
      | adr => exact absurd rfl hro
      | dic a b => exact .inl ⟨_, _, rfl, a, by rw [kv_len b]; exact q _ B H (.refl s) (.int _)⟩
      | dct a b => exact .inr ⟨_, _, rfl, a, by rw [kt_len b]; exact q _ B H (.refl s) (.int _)⟩
  · cases hz
theorem d_len (hm : X.mg "len" = none) (ha : PA X (e :: es) (cA G ow 1 fs)) (hg : Gl X "len" := by rfl) (he : starEach (e :: es) X.env = (false, eval e X.env) :: starEach es X.env := by rfl) (hpl : (backTo pos (starEach es X.env)).any (·.1) = false := by rfl) (hK : X.K = G.K := by rfl) :
    PE X (.Call (.Name "len" p) (e :: es) [] pos) (cV G ow 0 fun γ => (fs γ).bind fun ds => oR (lenD ds)) :=
  d_callB (((hc_lenSq.or hc_lenSt).or hc_lenDi).impP fun _ _ h => lenD_or h) (CallR.or (hK ▸ CallR.or call_len_seq call_len_str) (CallR.or call_lenD call_len_dT)) hm PySem.boot_len ha hg (by decide) (by decide) he hpl
/-! abs, int, bool, max, min -/
def absD : List D → Option D
  | [.int i] => some (.int (if i < 0 then -i else i))
  | _ => none
theorem d_abs (hm : X.mg "abs" = none) (ha : PA X (e :: es) (cA G ow 1 fs)) (hg : Gl X "abs" := by rfl) (he : starEach (e :: es) X.env = (false, eval e X.env) :: starEach es X.env := by rfl) (hpl : (backTo pos (starEach es X.env)).any (·.1) = false := by rfl) :
    PE X (.Call (.Name "abs" p) (e :: es) [] pos) (cV G ow 0 fun γ => (fs γ).bind fun ds => oR (absD ds)) :=
  d_callB ⟨by
    intro B H vs ds z Q s hx hz q
    unfold absD at hz
    split at hz
    · cases hz
      cases hx with
      | cons h t => cases t; exact ⟨_, by rw [DnF.int h], q _ B H (.refl s) (.int _)⟩
    · cases hz⟩ call_abs hm (by decide +kernel) ha hg (by decide) (by decide) he hpl
def intD : List D → Option D
  | [.int i] => some (.int i)
  | [.bool b] => some (.int (if b then 1 else 0))
  | _ => none
theorem d_intc (hm : X.mg "int" = none) (ha : PA X (e :: es) (cA G ow 1 fs)) (hg : Gl X "int" := by rfl) (he : starEach (e :: es) X.env = (false, eval e X.env) :: starEach es X.env := by rfl) (hpl : (backTo pos (starEach es X.env)).any (·.1) = false := by rfl) :
    PE X (.Call (.Name "int" p) (e :: es) [] pos) (cV G ow 0 fun γ => (fs γ).bind fun ds => oR (intD ds)) :=
  d_callT ⟨by
    intro B H vs ds z Q s hx hz q
    unfold intD at hz
    split at hz
    · cases hz
      cases hx with
      | cons h t => cases t; exact .inl ⟨_, by rw [DnF.int h], q _ B H (.refl s) (.int _)⟩
    · cases hz
      cases hx with
      | cons h t => cases t; exact .inr ⟨_, by rw [DnF.bool h], q _ B H (.refl s) (.int _)⟩
    · cases hz⟩ call_int1 hm (by decide +kernel) ha hg (by decide) (by decide) he hpl
def intsO : List D → Option (List Int)
  | [] => some []
  | .int i :: r => (intsO r).map fun ns => i :: ns
  | _ :: _ => none
theorem intsO_some : ∀ {ds : List D} {ns : List Int}, intsO ds = some ns → ds = ns.map PyData.int
  | [], _, h => by cases h; rfl
  | .int i :: r, ns, h => by
    unfold intsO at h
    cases hr : intsO r with
    | none => rw [hr] at h; cases h
    | some ms => rw [hr] at h; cases h; rw [intsO_some hr]; rfl
  | .none :: _, _, h => by cases h
  | .bool _ :: _, _, h => by cases h
  | .str _ :: _, _, h => by cases h
  | .list _ :: _, _, h => by cases h
  | .tuple _ :: _, _, h => by cases h
  | .dict _ :: _, _, h => by cases h
@[simp] theorem intsO_map : ∀ ns : List Int, intsO (ns.map PyData.int) = some ns
  | [] => rfl
  | n :: ns => by
    show (intsO (ns.map PyData.int)).map _ = _
    rw [intsO_map ns]
    rfl
def mxf (m y : Int) : Int := if y > m then y else m
def mnf (m y : Int) : Int := if y < m then y else m
def maxI : List Int → Int
  | [] => 0
  | a :: r => r.foldl mxf a
def minI : List Int → Int
  | [] => 0
  | a :: r => r.foldl mnf a
theorem mxf_spec : ∀ (r : List Int) (a : Int), (r.foldl mxf a = a ∨ r.foldl mxf a ∈ r) ∧ a ≤ r.foldl mxf a ∧ ∀ y ∈ r, y ≤ r.foldl mxf a
  | [], a => ⟨.inl rfl, Int.le_refl _, fun _ h => nomatch h⟩
  | b :: r, a => by
    obtain ⟨h1, h2, h3⟩ := mxf_spec r (mxf a b)
    rw [List.foldl_cons]
    have e1 : a ≤ mxf a b := by unfold mxf; split <;> omega
    have e2 : b ≤ mxf a b := by unfold mxf; split <;> omega
    have e3 : mxf a b = a ∨ mxf a b = b := by unfold mxf; split <;> simp
    refine ⟨?_, Int.le_trans e1 h2, fun y hy => ?_⟩
    · rcases h1 with h1 | h1
      · rw [h1]
        rcases e3 with e3 | e3
        · exact .inl e3
        · rw [e3]; exact .inr List.mem_cons_self
      · exact .inr (List.mem_cons_of_mem _ h1)
    · rcases List.mem_cons.mp hy with rfl | hy
      · exact Int.le_trans e2 h2
      · exact h3 y hy
theorem mnf_spec : ∀ (r : List Int) (a : Int), (r.foldl mnf a = a ∨ r.foldl mnf a ∈ r) ∧ r.foldl mnf a ≤ a ∧ ∀ y ∈ r, r.foldl mnf a ≤ y
  | [], a => ⟨.inl rfl, Int.le_refl _, fun _ h => nomatch h⟩
  | b :: r, a => by
    obtain ⟨h1, h2, h3⟩ := mnf_spec r (mnf a b)
    rw [List.foldl_cons]
    have e1 : mnf a b ≤ a := by unfold mnf; split <;> omega
    have e2 : mnf a b ≤ b := by unfold mnf; split <;> omega
    have e3 : mnf a b = a ∨ mnf a b = b := by unfold mnf; split <;> simp
    refine ⟨?_, Int.le_trans h2 e1, fun y hy => ?_⟩
    · rcases h1 with h1 | h1
      · rw [h1]
        rcases e3 with e3 | e3
        · exact .inl e3
        · rw [e3]; exact .inr List.mem_cons_self
      · exact .inr (List.mem_cons_of_mem _ h1)
    · rcases List.mem_cons.mp hy with rfl | hy
      · exact Int.le_trans h2 e2
      · exact h3 y hy
theorem maxI_spec {ns : List Int} (h : ns ≠ []) : maxI ns ∈ ns ∧ ∀ y ∈ ns, y ≤ maxI ns := by
  cases ns with
  | nil => exact absurd rfl h
  | cons a r =>
    obtain ⟨h1, h2, h3⟩ := mxf_spec r a
    show r.foldl mxf a ∈ a :: r ∧ ∀ y ∈ a :: r, y ≤ r.foldl mxf a
    refine ⟨?_, fun y hy => ?_⟩
    · rcases h1 with h1 | h1
      · rw [h1]; exact List.mem_cons_self
      · exact List.mem_cons_of_mem _ h1
    · rcases List.mem_cons.mp hy with rfl | hy
      · exact h2
      · exact h3 y hy
theorem minI_spec {ns : List Int} (h : ns ≠ []) : minI ns ∈ ns ∧ ∀ y ∈ ns, minI ns ≤ y := by
  cases ns with
  | nil => exact absurd rfl h
  | cons a r =>
    obtain ⟨h1, h2, h3⟩ := mnf_spec r a
    show r.foldl mnf a ∈ a :: r ∧ ∀ y ∈ a :: r, r.foldl mnf a ≤ y
    refine ⟨?_, fun y hy => ?_⟩
    · rcases h1 with h1 | h1
      · rw [h1]; exact List.mem_cons_self
      · exact List.mem_cons_of_mem _ h1
    · rcases List.mem_cons.mp hy with rfl | hy
      · exact h2
      · exact h3 y hy
theorem ints_of {K : PySem.W.Frag} {B H : Hp} {xs : List V} {ds : List D} {ns : List Int} (h : Paired (DnF K B H 0) xs ds) (e : intsO ds = some ns) : xs = ns.map V.int := by
  rw [intsO_some e] at h
  exact (DnAll.of_paired h).ints
def lsD (f : List Int → Option Int) : List D → Option D
  | [.list ds] => (intsO ds).bind fun ns => (f ns).map PyData.int
  | _ => none
theorem lsD_some {f : List Int → Option Int} {ds : List D} {z : D} (h : lsD f ds = some z) : ∃ es ns i, ds = [.list es] ∧ intsO es = some ns ∧ f ns = some i ∧ z = .int i := by
  unfold lsD at h
  split at h
  · rename_i es
    cases hi : intsO es with
    | none => rw [hi] at h; cases h
    | some ns =>
      rw [hi] at h
      replace h : (f ns).map PyData.int = some z := h
      cases hf : f ns with
      | none => rw [hf] at h; cases h
      | some i => rw [hf] at h; cases h; exact ⟨es, ns, i, rfl, hi, hf, rfl⟩
  · cases h
def sumD : List D → Option D := lsD fun ns => some ns.sum
def max2D : List D → Option D
  | [.int i, .int j] => some (.int (if j > i then j else i))
  | _ => none
def min2D : List D → Option D
  | [.int i, .int j] => some (.int (if j < i then j else i))
  | _ => none
def maxLD : List D → Option D := lsD fun ns => if ns.isEmpty = false then some (maxI ns) else none
def minLD : List D → Option D := lsD fun ns => if ns.isEmpty = false then some (minI ns) else none
theorem hc_sum {K : PySem.W.Frag} : HC K (rSum K) fun ds z => sumD ds = some z := ⟨by
  intro B H vs ds z Q s hx hz q
  obtain ⟨es, ns, i, rfl, e1, e2, rfl⟩ := lsD_some hz
  cases e2
  cases hx with
  | cons h t =>
    cases t
    obtain ⟨p, us, rfl, h1, h2⟩ := DnF.items s h
    rw [ints_of h2 e1] at h1
    exact ⟨p, ns, rfl, .inl h1, q _ B H (.refl s) (.int _)⟩⟩
theorem isE_ne {α : Type} {ns : List α} (h : ns.isEmpty = false) : ns ≠ [] := fun z => by subst z; cases h
theorem hc_maxL {K : PySem.W.Frag} : HC K (rMax K) fun ds z => maxLD ds = some z := ⟨by
  intro B H vs ds z Q s hx hz q
  obtain ⟨es, ns, i, rfl, e1, e2, rfl⟩ := lsD_some hz
  split at e2
  · rename_i hne
    cases e2
    have hne := isE_ne hne
    obtain ⟨s1, s2⟩ := maxI_spec hne
    cases hx with
    | cons h t =>
      cases t
      obtain ⟨p, us, rfl, h1, h2⟩ := DnF.items s h
      rw [ints_of h2 e1] at h1
      refine ⟨p, ns, rfl, .inl h1, List.length_pos_iff.mpr hne, fun m hm hle => ?_⟩
      have : m = maxI ns := Int.le_antisymm (s2 m hm) (hle _ s1)
      rw [this]
      exact q _ B H (.refl s) (.int _)
  · cases e2⟩
theorem hc_minL {K : PySem.W.Frag} : HC K (rMin K) fun ds z => minLD ds = some z := ⟨by
  intro B H vs ds z Q s hx hz q
  obtain ⟨es, ns, i, rfl, e1, e2, rfl⟩ := lsD_some hz
  split at e2
  · rename_i hne
    cases e2
    have hne := isE_ne hne
    obtain ⟨s1, s2⟩ := minI_spec hne
    cases hx with
    | cons h t =>
      cases t
      obtain ⟨p, us, rfl, h1, h2⟩ := DnF.items s h
      rw [ints_of h2 e1] at h1
      refine ⟨p, ns, rfl, .inl h1, List.length_pos_iff.mpr hne, fun m hm hle => ?_⟩
      have : m = minI ns := Int.le_antisymm (hle _ s1) (s2 m hm)
      rw [this]
      exact q _ B H (.refl s) (.int _)
  · cases e2⟩
theorem hc_max2 {K : PySem.W.Frag} : HC K (fun xs H Q => ∃ i j, xs = [.int i, .int j] ∧ Q (.int (if j > i then j else i)) H) fun ds z => max2D ds = some z := ⟨by
  intro B H vs ds z Q s hx hz q
  unfold max2D at hz
  split at hz
  · cases hz
    cases hx with
    | cons h t => cases t with
      | cons h' t' => cases t'; exact ⟨_, _, by rw [DnF.int h, DnF.int h'], q _ B H (.refl s) (.int _)⟩
  · cases hz⟩
theorem hc_min2 {K : PySem.W.Frag} : HC K (fun xs H Q => ∃ i j, xs = [.int i, .int j] ∧ Q (.int (if j < i then j else i)) H) fun ds z => min2D ds = some z := ⟨by
  intro B H vs ds z Q s hx hz q
  unfold min2D at hz
  split at hz
  · cases hz
    cases hx with
    | cons h t => cases t with
      | cons h' t' => cases t'; exact ⟨_, _, by rw [DnF.int h, DnF.int h'], q _ B H (.refl s) (.int _)⟩
  · cases hz⟩
def maxD (ds : List D) : Option D := match ds with
  | [_] => maxLD ds
  | _ => max2D ds
def minD (ds : List D) : Option D := match ds with
  | [_] => minLD ds
  | _ => min2D ds
theorem d_sum (hm : X.mg "sum" = none) (ha : PA X (e :: es) (cA G ow 1 fs)) (hc : X.calm = true := by rfl) (hg : Gl X "sum" := by rfl) (he : starEach (e :: es) X.env = (false, eval e X.env) :: starEach es X.env := by rfl) (hpl : (backTo pos (starEach es X.env)).any (·.1) = false := by rfl) (hK : X.K = G.K := by rfl) :
    PE X (.Call (.Name "sum" p) (e :: es) [] pos) (cV G ow 0 fun γ => (fs γ).bind fun ds => oR (sumD ds)) :=
  d_callB hc_sum (hK ▸ cr_sum hc) hm (by decide +kernel) ha hg (by decide) (by decide) he hpl
theorem d_max (hm : X.mg "max" = none) (ha : PA X (e :: es) (cA G ow 1 fs)) (hc : X.calm = true := by rfl) (hg : Gl X "max" := by rfl) (he : starEach (e :: es) X.env = (false, eval e X.env) :: starEach es X.env := by rfl) (hpl : (backTo pos (starEach es X.env)).any (·.1) = false := by rfl) (hK : X.K = G.K := by rfl) :
    PE X (.Call (.Name "max" p) (e :: es) [] pos) (cV G ow 0 fun γ => (fs γ).bind fun ds => oR (maxD ds)) :=
  d_callB ((hc_maxL.or hc_max2).impP fun ds z h => by
    unfold maxD at h
    split at h
    · exact .inl h
    · exact .inr h) (CallR.or (hK ▸ cr_max hc) (call_max2 hc)) hm (by decide +kernel) ha hg (by decide) (by decide) he hpl
theorem d_min (hm : X.mg "min" = none) (ha : PA X (e :: es) (cA G ow 1 fs)) (hc : X.calm = true := by rfl) (hg : Gl X "min" := by rfl) (he : starEach (e :: es) X.env = (false, eval e X.env) :: starEach es X.env := by rfl) (hpl : (backTo pos (starEach es X.env)).any (·.1) = false := by rfl) (hK : X.K = G.K := by rfl) :
    PE X (.Call (.Name "min" p) (e :: es) [] pos) (cV G ow 0 fun γ => (fs γ).bind fun ds => oR (minD ds)) :=
  d_callB ((hc_minL.or hc_min2).impP fun ds z h => by
    unfold minD at h
    split at h
    · exact .inl h
    · exact .inr h) (CallR.or (hK ▸ cr_min hc) (call_min2 hc)) hm (by decide +kernel) ha hg (by decide) (by decide) he hpl
/-! sorted of ints -/
def insI (a : Int) : List Int → List Int
  | [] => [a]
  | b :: r => if a ≤ b then a :: b :: r else b :: insI a r
def srtI : List Int → List Int
  | [] => []
  | a :: r => insI a (srtI r)
theorem insI_perm (a : Int) : ∀ l : List Int, (insI a l).Perm (a :: l)
  | [] => .refl _
  | b :: r => by
    unfold insI
    split
    · exact .refl _
    · exact ((insI_perm a r).cons b).trans (.swap a b r)
theorem srtI_perm : ∀ l : List Int, (srtI l).Perm l
  | [] => .refl _
  | a :: r => (insI_perm a _).trans ((srtI_perm r).cons a)
theorem insI_sorted (a : Int) : ∀ l : List Int, l.Pairwise (· ≤ ·) → (insI a l).Pairwise (· ≤ ·)
  | [], _ => by simp [insI]
  | b :: r, h => by
    unfold insI
    rw [List.pairwise_cons] at h
    split
    · rename_i hab
      refine List.pairwise_cons.mpr ⟨fun y hy => ?_, List.pairwise_cons.mpr h⟩
      rcases List.mem_cons.mp hy with rfl | hy
      · exact hab
      · exact Int.le_trans hab (h.1 y hy)
    · rename_i hab
      refine List.pairwise_cons.mpr ⟨fun y hy => ?_, insI_sorted a r h.2⟩
      rcases List.mem_cons.mp ((insI_perm a r).mem_iff.mp hy) with rfl | hy
      · omega
      · exact h.1 y hy
theorem srtI_sorted : ∀ l : List Int, (srtI l).Pairwise (· ≤ ·)
  | [] => .nil
  | a :: r => insI_sorted a _ (srtI_sorted r)
theorem sorted_uniq : ∀ {l m : List Int}, l.Perm m → l.Pairwise (· ≤ ·) → m.Pairwise (· ≤ ·) → l = m
  | [], m, p, _, _ => by rw [List.nil_perm.mp p]
  | a :: l, [], p, _, _ => absurd p.length_eq (by simp)
  | a :: l, b :: m, p, h, h' => by
    rw [List.pairwise_cons] at h h'
    have e : a = b := by
      have h1 : a ∈ b :: m := p.mem_iff.mp List.mem_cons_self
      have h2 : b ∈ a :: l := p.mem_iff.mpr List.mem_cons_self
      rcases List.mem_cons.mp h1 with h1 | h1
      · exact h1
      · rcases List.mem_cons.mp h2 with h2 | h2
        · exact h2.symm
        · exact Int.le_antisymm (h.1 b h2) (h'.1 a h1)
    subst e
    rw [sorted_uniq (p.cons_inv) h.2 h'.2]
def srtD : List D → Option (List D)
  | [.list ds] => (intsO ds).map fun ns => (srtI ns).map PyData.int
  | _ => none
theorem n_sorted (hm : X.mg "sorted" = none) (ha : PA X (e :: es) (cA G ow 1 fs)) (hg : Gl X "sorted" := by rfl) (he : starEach (e :: es) X.env = (false, eval e X.env) :: starEach es X.env := by rfl) (hpl : (backTo pos (starEach es X.env)).any (·.1) = false := by rfl) (hK : X.K = G.K := by rfl) :
    PE X (.Call (.Name "sorted" p) (e :: es) [] pos) (cN G ow fun γ => (fs γ).bind fun ds => oR (srtD ds)) :=
  (pe_callB (hK ▸ cr_sortedI) hg hm (by decide +kernel) ha (by decide) (by decide) he hpl).impD fun σ H Q ⟨B, γ, I, q⟩ => ⟨B, γ, I, q.bind.imp fun ds q vs B1 H1 x1 hvs => by
    obtain ⟨z, ez, q⟩ := q.oR
    unfold srtD at ez
    split at ez
    · rename_i es'
      cases hi : intsO es' with
      | none => rw [hi] at ez; cases ez
      | some ns =>
        rw [hi] at ez
        cases ez
        cases hvs with
        | cons h t =>
          cases t
          obtain ⟨p', us, rfl, h1, h2⟩ := DnF.items x1.s h
          rw [ints_of h2 hi] at h1
          refine ⟨p', ns, rfl, .inl h1, fun ns' r hp hs hr => ?_⟩
          have e9 : ns' = srtI ns := sorted_uniq (hp.trans (srtI_perm ns).symm) hs (srtI_sorted ns)
          rw [e9]
          exact q r _ B1 _ (x1.trans (.hid x1.s hr)) (x1.h.free hr) (same_none x1.s hr) upd_same (DnAll.of_ints _)
    · cases ez⟩
/-! list, tuple -/
def lstD : List D → Option (List D)
  | [.list ds] => some ds
  | [.dict [(.none, .list ds)]] => some ds
  | [.tuple ds] => some ds
  | _ => none
theorem n_list (hm : X.mg "list" = none) (ha : PA X (e :: es) (cA G ow 1 fs)) (hg : Gl X "list" := by rfl) (he : starEach (e :: es) X.env = (false, eval e X.env) :: starEach es X.env := by rfl) (hpl : (backTo pos (starEach es X.env)).any (·.1) = false := by rfl) (hK : X.K = G.K := by rfl) :
    PE X (.Call (.Name "list" p) (e :: es) [] pos) (cN G ow fun γ => (fs γ).bind fun ds => oR (lstD ds)) :=
  (pe_callTy (hK ▸ call_list_of) hg hm (by decide +kernel) ha (by decide) (by decide) he hpl).impD fun σ H Q ⟨B, γ, I, q⟩ => ⟨B, γ, I, q.bind.imp fun ds q vs B1 H1 x1 hvs => by
    obtain ⟨z, ez, q⟩ := q.oR
    unfold lstD at ez
    split at ez
    · rename_i es'
      cases ez
      cases hvs with
      | cons h t =>
        cases t
        obtain ⟨p', us, rfl, h1, h2⟩ := DnF.items x1.s h
        exact ⟨p', us, rfl, .inl (.inl h1), fun r hr => q r _ B1 _ (x1.trans (.hid x1.s hr)) (x1.h.free hr) (same_none x1.s hr) upd_same (.of_paired h2)⟩
    · rename_i es'
      cases ez
      cases hvs with
      | cons h t =>
        cases t
        obtain ⟨p', us, rfl, _, h1, h2⟩ := DnF.rol x1.s h
        exact ⟨p', us, rfl, .inl h1, fun r hr => q r _ B1 _ (x1.trans (.hid x1.s hr)) (x1.h.free hr) (same_none x1.s hr) upd_same h2⟩
    · rename_i es'
      cases ez
      cases hvs with
      | cons h t =>
        cases t
        obtain ⟨p', us, rfl, h1, h2⟩ := DnF.tups x1.s h
        exact ⟨p', us, rfl, .inr h1, fun r hr => q r _ B1 _ (x1.trans (.hid x1.s hr)) (x1.h.free hr) (same_none x1.s hr) upd_same h2⟩
    · cases ez⟩
theorem DnF.tupD {K : PySem.W.Frag} {B H : Hp} {v : V} {ds : List D} (h : DnF K B H 1 v (.tuple ds)) : Dn K B v (.tuple ds) := by
  rcases h with h | ⟨_, _, _, _, e, _⟩
  · exact h
  · cases e
def tplD : List D → Option D
  | [.list ds] => some (.tuple ds)
  | [.tuple ds] => some (.tuple ds)
  | _ => none
theorem d_tuple (hm : X.mg "tuple" = none) (ha : PA X (e :: es) (cA G ow 1 fs)) (hg : Gl X "tuple" := by rfl) (he : starEach (e :: es) X.env = (false, eval e X.env) :: starEach es X.env := by rfl) (hpl : (backTo pos (starEach es X.env)).any (·.1) = false := by rfl) (hK : X.K = G.K := by rfl) :
    PE X (.Call (.Name "tuple" p) (e :: es) [] pos) (cV G ow 0 fun γ => (fs γ).bind fun ds => oR (tplD ds)) :=
  d_callT ⟨by
    intro B H vs ds z Q s hx hz q
    unfold tplD at hz
    split at hz
    · rename_i es'
      cases hz
      cases hx with
      | cons h t =>
        cases t
        obtain ⟨p', us, rfl, h1, h2⟩ := DnF.items s h
        exact ⟨p', us, rfl, .inl ⟨.inl h1, fun r hr => q _ _ _ (.new s hr) (.tup upd_same ((DnAll.of_paired h2).mono (same_new (same_none s hr))))⟩⟩
    · rename_i es'
      cases hz
      cases hx with
      | cons h t =>
        cases t
        have h' := DnF.tupD h
        cases h' with
        | tup a b => exact ⟨_, _, rfl, .inr ⟨.inl (.inl (s _ _ a)), q _ B H (.refl s) (.tup a b)⟩⟩
    · cases hz⟩ (hK ▸ call_tuple_of) hm (by decide +kernel) ha hg (by decide) (by decide) he hpl
/-! list(range(..)) -/
theorem rgV_get (a b : Int) : rgV a b = (List.range (b - a).toNat).map fun k : Nat => V.int (a + (k : Int)) := rfl
theorem rg_all {K : PySem.W.Frag} {B : Hp} (a b : Int) : DnAll K B (rgV a b) (rgD a b) := by
  rw [rgV_get]
  unfold rgD
  generalize List.range (b - a).toNat = l
  induction l with
  | nil => exact .nil
  | cons k l ih => exact .cons (.int _) ih
def rgL1 : D → Option (List D)
  | .int j => if 0 ≤ j ∧ j ≤ LIM then some (rgD 0 j) else none
  | _ => none
def rgL2 : D → D → Option (List D)
  | .int i, .int j => if (0 ≤ i ∧ i ≤ LIM) ∧ (0 ≤ j ∧ j ≤ LIM) then some (rgD i j) else none
  | _, _ => none
variable {a b : Expr} {f g : Env → Rs D}
theorem n_listrg1 {p1 p2 : Pos} (hm : X.mg "list" = none) (hmr : X.mg "range" = none) (ha : PE X a (cV G ow 1 f)) (hg : Gl X "list" := by rfl) (hgr : Gl X "range" := by rfl) (hc : X.calm = true := by rfl) (na : starEach [a] X.env = (false, eval a X.env) :: starEach [] X.env := by rfl)
    (nb : starEach [.Call (.Name "range" p1) [a] [] p2] X.env = (false, eval (.Call (.Name "range" p1) [a] [] p2) X.env) :: starEach [] X.env := by rfl) :
    PE X (.Call (.Name "list" p) [.Call (.Name "range" p1) [a] [] p2] [] pos) (cN G ow fun γ => (f γ).bind fun d => oR (rgL1 d)) :=
  (pe_listRg hc hg hm (prg_1 hgr hmr ha (na := na)) (na := nb)).impD fun σ H Q ⟨B, γ, I, q⟩ => ⟨B, γ, I, q.bind.imp fun d q v B1 H1 x1 hv => by
    obtain ⟨z, ez, q⟩ := q.oR
    unfold rgL1 at ez
    split at ez
    · rename_i j
      split at ez
      · rename_i hc
        cases ez
        exact ⟨j, hv.int, RgOk.of_le (by decide) (Int.le_trans hc.2 (by decide)) (by decide) hc.1, fun r hr => q r _ B1 _ (x1.trans (.hid x1.s hr)) (x1.h.free hr) (same_none x1.s hr) upd_same (rg_all 0 j)⟩
      · cases ez
    · cases ez⟩
theorem n_listrg2 {p1 p2 : Pos} (hm : X.mg "list" = none) (hmr : X.mg "range" = none) (ha : PE X a (cV G ow 1 f)) (hb : PE X b (cV G ow 1 g)) (hg : Gl X "list" := by rfl) (hgr : Gl X "range" := by rfl) (hc : X.calm = true := by rfl) (na : starEach [a, b] X.env = (false, eval a X.env) :: starEach [b] X.env := by rfl)
    (nb : starEach [.Call (.Name "range" p1) [a, b] [] p2] X.env = (false, eval (.Call (.Name "range" p1) [a, b] [] p2) X.env) :: starEach [] X.env := by rfl) (nc : starEach [b] X.env = (false, eval b X.env) :: starEach [] X.env := by rfl) (hp : (backTo p2 (starEach [b] X.env)).any (·.1) = false := by rfl) :
    PE X (.Call (.Name "list" p) [.Call (.Name "range" p1) [a, b] [] p2] [] pos) (cN G ow fun γ => (f γ).bind fun d => (g γ).bind fun e => oR (rgL2 d e)) :=
  (pe_listRg hc hg hm (prg_2 hgr hmr ha hb na nc hp) nb).impD fun σ H Q ⟨B, γ, I, q⟩ => ⟨B, γ, I, q.bind.imp fun d q1 v B1 H1 x1 hv => ⟨B1, γ, I.mono x1, q1.bind.mono x1 fun e q2 u B2 H2 x2 hu => by
    obtain ⟨z, ez, q⟩ := q2.oR
    unfold rgL2 at ez
    split at ez
    · rename_i i j
      split at ez
      · rename_i hc
        cases ez
        exact ⟨i, j, (hv.mono x2).int, hu.int, RgOk.of_le hc.1.1 (Int.le_trans hc.2.2 (by decide)) (Int.le_trans hc.1.2 (by decide)) hc.2.1, fun r hr => q r _ B2 _ ((x1.trans x2).trans (.hid x2.s hr)) ((x1.trans x2).h.free hr) (same_none x2.s hr) upd_same (rg_all i j)⟩
      · cases ez
    · cases ez⟩⟩
/-! x.index(y) -/
def idxD : D → List D → Option D
  | .list ds, [d] => if SeqAt.shaped (.list ds) = true ∧ SeqAt.shaped d = true then (ds.findIdx? fun z => PyData.eqv z d).map fun j => .int (j : Nat) else none
  | _, _ => none
def plO : D → Option (List D)
  | .list ds => some ds
  | _ => none
theorem lsO_dn {d : D} {ds : List D} (h : plO d = some ds) : d = .list ds := by
  unfold plO at h
  split at h
  · cases h; rfl
  · cases h
theorem d_index {n : Nat} {p1 p2 : Pos} (hr : Room n X.A) (ha : PE X a (cV G ow 1 f)) (hb : PA X [e] (cA G ow 1 fs)) (hbase : attributeBase a "index" X.env (eval a X.env) = eval a X.env := by rfl) (hK : X.K = G.K := by rfl)
    (h1 : ∀ {to : TE} {t : TA}, X.A.units + 65 < cLine → PE X a to → PA X [e] t → PE X (.Call (.Attribute a "index" p1) [e] [] p2) (tBM X.K "list" (rIndexD X.K) to t) := by
      exact fun hu h1 h2 => pe_bm PySem.F.plainAttrs_list PySem.F.slot_list_index PySem.F.type_list_index (mt_indexD hu) h1 h2) :
    PE X (.Call (.Attribute a "index" p1) [e] [] p2) (cV G ow 0 fun γ => (f γ).bind fun d => (oR (plO d)).bind fun _ => (fs γ).bind fun ds => oR (idxD d ds)) :=
  (h1 (by have := hr.un; omega) ha hb).impD fun σ H Q ⟨B, γ, I, q⟩ => ⟨B, γ, I, q.bind.imp fun d q v B1 H1 x1 hv => by
    obtain ⟨es, e1, q⟩ := q.bind.oR
    have e2 := lsO_dn e1
    subst e2
    obtain ⟨p, us, rfl, h1, h2⟩ := hv.items x1.s
    rw [hK]
    refine ⟨.inl ⟨rfl, us, .inl h1⟩, B1, γ, I.mono x1, q.bind.mono x1 fun ds q vs B2 H2 x2 hvs => ?_⟩
    obtain ⟨z, ez, q⟩ := q.oR
    unfold idxD at ez
    split at ez
    · rename_i es' d' heq
      cases heq
      split at ez
      · rename_i hc
        cases hj : es.findIdx? (fun z => PyData.eqv z d') with
        | none => rw [hj] at ez; cases ez
        | some j =>
          rw [hj] at ez
          cases ez
          obtain ⟨hlt, k1, k2⟩ := List.findIdx?_eq_some_iff_getElem.mp hj
          cases hvs with
          | cons h t =>
            cases t
            refine ⟨p, _, d', es, j, es[j], rfl, rfl, ((hv.mono x2).flu x2.s).dp (SeqAt.canLay_of_shaped hc.1), (DnF.flu x2.s h).dp (SeqAt.canLay_of_shaped hc.2), hc.1, hc.2, List.getElem?_eq_getElem hlt, k1, fun m z' hm hz' => ?_, q _ B2 H2 (x1.trans x2) (Dn.int _)⟩
            have hml : m < es.length := Nat.lt_trans hm hlt
            rw [List.getElem?_eq_getElem hml] at hz'
            cases hz'
            have := k2 m hm
            simpa using this
      · cases ez
    · cases ez⟩
/-! str(n) -/
def strI : List D → Option D
  | [.int i] => if i.natAbs.log2 < 1920 then some (.str (toString i)) else none
  | _ => none
theorem d_strc (hm : X.mg "str" = none) (ha : PA X (e :: es) (cA G ow 1 fs)) (hg : Gl X "str" := by rfl) (he : starEach (e :: es) X.env = (false, eval e X.env) :: starEach es X.env := by rfl) (hpl : (backTo pos (starEach es X.env)).any (·.1) = false := by rfl) :
    PE X (.Call (.Name "str" p) (e :: es) [] pos) (cV G ow 0 fun γ => (fs γ).bind fun ds => oR (strI ds)) :=
  d_callT ⟨by
    intro B H vs ds z Q s hx hz q
    unfold strI at hz
    split at hz
    · split at hz
      · rename_i hc
        cases hz
        cases hx with
        | cons h t => cases t; exact ⟨_, by rw [DnF.int h], hc, q _ B H (.refl s) (.str _)⟩
      · cases hz
    · cases hz⟩ call_str_int hm (by decide +kernel) ha hg (by decide) (by decide) he hpl
end
end DL
set_option Elab.async false
set_option linter.all false
set_option maxRecDepth 100000
set_option maxHeartbeats 4000000
/-! The data layer: own error classes whose __init__ says super().__init__(text) and stores fields. -/
namespace DL
open PySem PySem.Spec PyProof.Rows L2

/-- what the written part says of a def that closes over its class -/
structure SupTxt (K : PySem.W.Frag) (mg : Str → Option Value) (P : Program) (C f : Addr) (qual : Str) (params : Arguments) (body : List Stmt) (scope : Scope) (fd : FuncData) (me : Str) : Prop where
  oex : OexC K C
  ex : ∃ (oc : Value) (od : Option Addr) (kV doc pm : Value) (an : Option Addr) (cda : Addr) (ct : Value) (osl : Array (Option Value)) (cc : Addr) (ccl : Value) (cdd : Option Addr) (vs : Array Value) (ccs : Array (Option Value)) (file : Str) (tf : Tok) (cl : Value) (cld : Option Addr) (csl : Array (Option Value)),
    fd = PySem.W.ksFn "__init__" qual params body scope .none kV doc pm an (.ref cda) ct cc ∧ K.lookup f = some ⟨oc, od, .func fd, osl⟩ ∧ PySem.W.codeIn K (.ref cda) qual = true ∧
      K.lookup cda = some ⟨ccl, cdd, .fields vs, ccs⟩ ∧ vs[2]? = some (.str file tf) ∧ ((P.main.file : Str) == file) = true ∧ K.lookup cc = some ⟨cl, cld, .cell (some (.ref C)), csl⟩
  cls : ∃ cd, PySem.W.clsIn K C = some cd
  sub : PySem.W.mroIn K C (.ref C) = some true
  sup : mg "super" = none
  st : PySem.W.nsIn K cStatics "thirdparty.any" = some none
  ini : PySem.W.ks_superIn K C C "__init__" = some (some (.builtin "ValueError.__init__"))
  ve : PySem.W.subIn K (.ref C) (.type "ValueError") = some true
  top : (P.main.scope.names.lookup ("super" : Str)).isSome = false
  head : ∃ ar, (params.posonlyargs ++ params.args).head? = some ar ∧ ar.arg = me

/-- the scope of such a def -/
structure SupScope (N ps : List Str) (me : Str) (sc : Scope) : Prop where
  kind : sc.kind = .function
  co : sc.isCoroutine = false
  gen : sc.isGenerator = false
  nd : N.Nodup
  np : N = ps
  par : ∀ x ∈ ps, sc.names.lookup x = some .local
  nocell : ∀ y ∈ sc.names, y.2 ≠ .cell
  free : ∀ y, sc.names.lookup y = some .free → y = "__class__"
  fr : sc.names.lookup ("__class__" : Str) = some .free
  gl : sc.names.lookup ("super" : Str) = some .globalImplicit
  hd : ps.head? = some me

abbrev cxF (CX : CXT) (P : Program) (w : World) (K : PySem.W.Frag) (mg : Str → Option Value) (base : Heap) (N : List Str) (qual : Str) (scope : Scope) (f : Addr) (cd : Value) (cc : Addr) (A : Around) (outer : List PySem.Env) (s : Shared) (H : Hp) (E : XK) : Cx where
  prog := P
  w := w
  K := K
  mg := mg
  base := base
  A := A.deeper (PySem.W.envX qual scope s.heap.objs.size f cd [("__class__", cc)])
  N := N
  s_0 := s
  H_0 := H
  env := PySem.W.envX qual scope s.heap.objs.size f cd [("__class__", cc)]
  outer := outer
  stack := PySem.W.envX qual scope s.heap.objs.size f cd [("__class__", cc)] :: outer
  ex := []
  calm := true
  fn := fun x => x != "__class__"
  pn := []
  xe := fun e s' => wpAny (model P w) (A.deeper (PySem.W.envX qual scope s.heap.objs.size f cd [("__class__", cc)])) (leaving (PySem.W.envX qual scope s.heap.objs.size f cd [("__class__", cc)]) e) (fun _ s'' => CX outer H s E e s'') (fun e' s'' => CX outer H s E e' s'') s'

theorem lookup_one {α : Type} {l : List (Str × α)} {x : Str} {u : α} (hm : (x, u) ∈ l) (hu : ∀ v, (x, v) ∈ l → v = u) : l.lookup x = some u := by
  induction l with
  | nil => cases hm
  | cons p r ih =>
    obtain ⟨k, v⟩ := p
    by_cases e : x = k
    · subst e
      rw [List.lookup_cons_self, hu v List.mem_cons_self]
    · rw [List.lookup_cons]
      have : (x == k) = false := by simpa using e
      rw [this]
      rcases List.mem_cons.mp hm with z | z
      · cases z; exact absurd rfl e
      · exact ih z fun v hv => hu v (List.mem_cons_of_mem _ hv)
theorem zip_lookup {ps : List Str} {us : List Value} (nd : ps.Nodup) {i : Nat} {x : Str} {u : Value} (h1 : ps[i]? = some x) (h2 : us[i]? = some u) : (ps.zip us).reverse.lookup x = some u := by
  refine lookup_one (List.mem_reverse.mpr (List.mem_of_getElem? (i := i) ?_)) fun v hv => ?_
  · rw [List.getElem?_zip_eq_some]; exact ⟨h1, h2⟩
  · obtain ⟨j, hj⟩ := List.getElem?_of_mem (List.mem_reverse.mp hv)
    obtain ⟨j1, j2⟩ := List.getElem?_zip_eq_some.mp hj
    have : i = j := nd_ix nd h1 j1
    subst this
    rw [h2] at j2
    exact (Option.some.inj j2).symm

section
variable {X : Cx} {pins : List (Addr × Obj)} {σ : L2.St} {H : Hp} {s : Shared} {a C : Addr}
/-- the bound built-in __init__, called: nothing that is told changes -/
theorem mw_ok {u : Addr} {us : List Value} {Q : Value → Shared → Prop} {E : Value → Shared → Prop} {A : Around} (T : OexC X.K C) (I : Inv X pins σ H s) (e : H a = some (exo a C none)) (hu : s.heap.get? u = some (PySem.W.kxs_mw "ValueError.__init__" a)) (hl : us.length ≤ sizeLine) (h : ∀ s', Inv X pins σ H s' → Q .none s') :
    wpAny (model X.prog X.w) A (call (.ref u) us) Q E s := by
  obtain ⟨nm, q, N, bs, bm, sn, sub, ab, col, dd, k0, k1, k2, k3, k5, hC, hbm⟩ := T.cls
  obtain ⟨t1, ho⟩ := exo_at I.hok e
  obtain ⟨hp, g, d, t, os⟩ := s
  have hrun : ∀ h', (∀ b o, b ≠ a → hp.get? b = some o → h'.get? b = some o) → (∃ t2 : Addr, h'.get? a = some ({ cls := .ref C, dict := none, data := .fields #[.ref t2, .none, .none, .none, .bool false, .none] } : Obj)) → Q .none ⟨h', g, d, t, os⟩ := fun h' k ⟨t2, hx⟩ => by
    have J := I.write (t' := t) (x := a) (e := a) (o := exo a C none) (by rw [e]; exact True.intro) (.inl rfl) k ⟨_, hx⟩ (exo_ok hx)
    have eu : upd H a (exo a C none) = H := by
      funext b
      by_cases hb : b = a
      · subst hb; rw [upd_same, e]
      · exact upd_ne hb
    rw [eu] at J
    exact h _ J
  refine wpAny_call (codeAny_of_tree ?_)
  show wpAny _ A.in1 (callAny (.ref u) ⟨us, []⟩) _ _ _
  simp only [callAny]
  refine wpAny_bind (wpAny_load hu ?_)
  have hdec : (Value.type "method-wrapper" == Value.type "method" || Value.type "method-wrapper" == Value.type "builtin_function_or_method" || Value.type "method-wrapper" == Value.type "method-wrapper") = true := by decide
  simp only [PySem.W.kxs_mw, hdec, if_true]
  refine PySem.W.KFB.if_so (by decide) ?_
  refine wpAny_bind (PySem.W.check_bound_init PySem.F.excBase_ValueError.toExcCallFacts (I.kIn _ _ hC) ho rfl ?_)
  refine wpAny_bind (wpAny_pure (wpAny_pure ?_))
  refine ⟨PySem.plainId_quiet PySem.F.excBase_ValueError.init.plain _, codeAny_builtin PySem.F.excBase_ValueError.initEntry ?_⟩
  exact PySem.W.exc_init_tree (cls := .ref C) (t0 := t1) (dv := none) (c2 := .none) (c3 := .none) (b4 := .bool false) ho hl fun h' k he' _ => hrun h' k ⟨_, he'⟩
end

theorem fn_supA {CX : CXT} {P : Program} {w : World} {K : PySem.W.Frag} {mg : Str → Option Value} {base : Heap} {k : Nat} {C f : Addr} {qual self : Str} {params : Arguments} {rest : List Stmt} {scope : Scope} {fd : FuncData} {N ps : List Str} {sp : Sp}
    {p0 p1 pa pc pe : Pos} {arg : Expr}
    (T : SupTxt K mg P C f qual params (.Expr (.Call (.Attribute (.Call (.Name "super" p0) [] [] p1) "__init__" pa) [arg] [] pc) pe :: rest) scope fd self) (S : SupScope N ps self scope)
    (len : ∀ vs H Q E, sp vs H Q E → vs.length = ps.length) (hself : ∀ vs H Q E, sp vs H Q E → ∃ a ws, vs = .ref a :: ws ∧ H a = some (exo a C none))
    (hsw : ∀ (s : Shared) (cd : Value) (cc : Addr), swapsWith (.Call (.Attribute (.Call (.Name "super" p0) [] [] p1) "__init__" pa) [arg] [] pc) none pe.line (PySem.W.envX qual scope s.heap.objs.size f cd [("__class__", cc)]) = pure false)
    (hev : ∀ (s : Shared) (cd : Value) (cc : Addr), ∃ pl : Sem Bool, eval (.Call (.Attribute (.Call (.Name "super" p0) [] [] p1) "__init__" pa) [arg] [] pc) (PySem.W.envX qual scope s.heap.objs.size f cd [("__class__", cc)]) = (do
      let ov ← attributeBase (.Call (.Name "super" p0) [] [] p1) "__init__" (PySem.W.envX qual scope s.heap.objs.size f cd [("__class__", cc)]) (eval (.Call (.Name "super" p0) [] [] p1) (PySem.W.envX qual scope s.heap.objs.size f cd [("__class__", cc)]))
      standAt pa.atName
      let (f', first) ← holding [ov] (getMethod ov "__init__" pl)
      callWith pc f' first (backTo pc (starEach [arg] (PySem.W.envX qual scope s.heap.objs.size f cd [("__class__", cc)]))) []))
    (hst : ∀ env : PySem.Env, starEach [arg] env = (false, eval arg env) :: starEach [] env)
    (harg : ∀ (cd : Value) (cc : Addr) (A : Around) (outer : List PySem.Env) (s : Shared) (H : Hp) (vs : List V) (Q : VK) (E : XK), sp vs H Q E →
      ∃ tt, PE (cxF CX P w K mg base N qual scope f cd cc A outer s H E) arg tt ∧ tCons tt tNil (L2.start N vs) H fun us H1 => us.length = 1 ∧ H1 = H)
    (hbody : ∀ (cd : Value) (cc : Addr) (A : Around) (outer : List PySem.Env) (s : Shared) (H : Hp) (vs : List V) (Q : VK) (E : XK), sp vs H Q E →
      ∃ t, PSs (cxF CX P w K mg base N qual scope f cd cc A outer s H E) rest t ∧ t { nx := fun _ H' => Q .non H', rt := Q } (L2.start N vs) H) :
    FnOk P w K mg base CX (k + 1) f fd ps sp := by
  refine ⟨len, fun A outer s H args us vs Q E hr e0 hb r hsp => ?_⟩
  obtain ⟨oc, od, kV, doc, pmo, an, cda, ct, osl, cc, ccl, cdd, vsC, ccs, file, tf, cl, cld, csl, rfl, lk, hcd, lcd, hv2, hfile, lcc⟩ := T.ex
  obtain ⟨ar, har, hself2⟩ := T.head
  obtain ⟨cdC, hcdC⟩ := T.cls
  have hl := len _ _ _ _ hsp
  obtain ⟨a, ws, rfl, ha⟩ := hself _ _ _ _ hsp
  have KX : K.In s.heap := e0.mod.kin.keeps fun b o e => (e0.bs b o e).1
  have lim : s.heap.NoLimit := e0.mod.nolimit.keeps fun b o e => (e0.bs b o e).1
  have hlu : us.length = ps.length := by rw [← r.length]; exact hl
  have hps : N = ps := S.np
  subst hps
  have hkind : ∀ y ∈ N.zip us, scope.names.lookup y.1 = some .local := fun ⟨n, v⟩ hy => S.par n (List.of_mem_zip hy).1
  refine PySem.ks_codeAny_call_defAt (fd := PySem.W.ksFn "__init__" qual params _ scope .none kV doc pmo an (.ref cda) ct cc) (binds := N.zip us) hr.depth (KX _ _ lk) rfl lim (PySem.W.codeRec_of KX hcd) rfl hb S.nocell hkind (fun h₀ hns hk => ?_) S.co S.gen S.kind
  obtain ⟨t, ht, hq⟩ := hbody (.ref cda) cc A outer s H _ Q E hsp
  have hK0 : K.In h₀ := KX.keeps hk
  have noA : ∀ b : Addr, b ∉ (cxF CX P w K mg base N qual scope f (.ref cda) cc A outer s H E).ex := fun b z => absurd (show b ∈ ([] : List Addr) from z) (by simp)
  have cellL : ∀ (y : Str) (c : Addr), ([(("__class__" : Str), cc)] : List (Str × Addr)).lookup y = some c → y = "__class__" ∧ c = cc := fun y c e => by
    rw [List.lookup_cons] at e
    split at e
    · rename_i z
      cases e
      exact ⟨by simpa using z, rfl⟩
    · cases e
  have Hcc : H cc = none := by
    have := KX _ _ lcc
    cases q : H cc with
    | none => rfl
    | some o =>
      have z := (e0.bs cc _ (e0.mod.kin _ _ lcc)).2
      rw [q] at z; cases z
  have I0 : Inv (cxF CX P w K mg base N qual scope f (.ref cda) cc A outer s H E) [] (L2.start N (.ref a :: ws)) H { s with heap := h₀, toks := s.toks + (N.zip us).length } := by
    refine ⟨⟨e0.mod, S.kind, rfl, rfl, Nat.le_refl _, fun y z c h1 h2 => ?_, fun y hy => ?_, fun y c hy h => ?_, fun _ => hr.hd, Around.frames_deeper e0.frames, .inr ⟨rfl, rfl⟩, fun b z => absurd z (noA b), e0.bs, e0.bsz, fun b _ _ => noA b, fun b z => absurd z (noA b), e0.funs, e0.frf⟩,
      rfl, e0.bare, Un.kept hk, ⟨_, hns, fun i y v h1 h2 h3 => ?_⟩, fun y c h => ?_, e0.hok.fresh (Nat.le_refl _), fun y c h => ?_, fun p hp => absurd (show p ∈ ([] : List (Addr × Obj)) from hp) (by simp), e0.hok.kept hk, ?_⟩
    · rw [(cellL y c h1).1, (cellL z c h2).1]
    · rcases hy with hy | hy
      · exact absurd rfl (S.nocell _ (PySem.mem_of_lookup hy))
      · rw [S.free y hy]; exact ⟨cc, rfl⟩
    · have := (cellL y c h).1
      subst this
      exact absurd hy (show ¬ (("__class__" : Str) != ("__class__" : Str)) = true by decide)
    · have hi : i < (V.ref a :: ws).length := by
        have h2' : ((V.ref a :: ws).map some ++ List.replicate (N.length - (V.ref a :: ws).length) none)[i]? = some (some v) := h2
        by_cases hi : i < (V.ref a :: ws).length
        · exact hi
        · rw [List.getElem?_append_right (by rw [List.length_map]; omega), List.getElem?_replicate] at h2'
          split at h2' <;> cases h2'
      have hav : (V.ref a :: ws)[i]? = some v := by
        have h2' : ((V.ref a :: ws).map some ++ List.replicate (N.length - (V.ref a :: ws).length) none)[i]? = some (some v) := h2
        rw [List.getElem?_append_left (by rw [List.length_map]; exact hi), List.getElem?_map, Option.map_eq_some_iff] at h2'
        obtain ⟨z, e1, e2⟩ := h2'
        rw [e1, Option.some.inj e2]
      obtain ⟨u, hu, rv⟩ := r.get hav
      exact ⟨u, rv, .inl ⟨S.par y (List.mem_of_getElem? h1), zip_lookup S.nd h1 hu⟩⟩
    · rw [(cellL y c h).2]
      exact ⟨_, _, hK0 _ _ lcc, rfl⟩
    · rw [(cellL y c h).2]
      exact Hcc
    · show (L2.start N (V.ref a :: ws)).length = N.length
      unfold L2.start
      rw [List.length_append, List.length_map, List.length_replicate]
      omega
  have hself3 : ∃ u0 ur, us = u0 :: ur ∧ u0 = Value.ref a := by
    cases r with
    | cons r0 _ => exact ⟨_, _, rfl, r0⟩
  obtain ⟨u0, ur, rfl, rfl⟩ := hself3
  have hselfL : (N.zip (Value.ref a :: ur)).reverse.lookup self = some (Value.ref a) := by
    have h0 : N[0]? = some self := by rw [← List.head?_eq_getElem?]; exact S.hd
    exact zip_lookup S.nd h0 rfl
  have hselfLoc : scope.names.lookup self = some .local := S.par self (by
    have := S.hd
    cases N with
    | nil => cases this
    | cons x l => cases this; exact List.mem_cons_self)
  obtain ⟨t1, hobj⟩ := exo_at I0.hok ha
  obtain ⟨oD, hD1, hD2⟩ : ∃ oD, h₀.get? C = some oD ∧ oD.data = .cls cdC := by
    unfold PySem.W.clsIn at hcdC
    split at hcdC
    · rename_i c d cd' sl ho
      cases hcdC
      exact ⟨_, hK0 _ _ ho, rfl⟩
    · cases hcdC
  obtain ⟨mb, hmb1, hmb2⟩ := e0.mod.blt
  have bk : ∀ b o, base.get? b = some o → h₀.get? b = some o := fun b o e => hk b o (e0.bs b o e).1
  obtain ⟨pl, hpl⟩ := hev s (.ref cda) cc
  refine PySem.ks_wpAt_execs_cons (PySem.ks_wpAt_Expr_any (PySem.ks_wpAt_MethodCall (pl := pl) ?_ hpl) I0.quiet (hsw s _ _))
  refine PySem.ks_wpAt_super_base (env := PySem.W.envX qual scope s.heap.objs.size f (.ref cda) [("__class__", cc)]) S.gl S.fr (by decide) rfl (hK0 _ _ lk) rfl har rfl (hK0 _ _ lcd) rfl hv2 hfile T.top ?_
  refine PySem.W.ks_loadName_global S.kind S.gl (PySem.Calls.loadGlobal_builtin (env := PySem.W.envX qual scope s.heap.objs.size f (.ref cda) [("__class__", cc)]) (e0.mod.glob.keeps bk) T.sup (hmb1.keeps bk) ((hmb2 _ (by decide)).trans (show bootBuiltins "super" = some (.type "super") by decide +kernel)) ⟨rfl, ?_⟩)
  refine wpAny_loadName_free S.kind S.fr rfl ⟨_, hK0 _ _ lcc, rfl⟩ ?_
  rw [hself2]
  refine wpAny_loadName_local S.kind hselfLoc hns hselfL ?_
  refine PySem.ks_wpAny_isType_cls hD1 hD2 ⟨rfl, ?_⟩
  refine PySem.ks_wpAny_call_super hD1 hD2 hobj rfl (fun c e => nomatch e) (PySem.W.looks_mroIn hK0 T.sub) (fun h1 e1 k1 => ?_)
  have I1 := I0.kept (t' := s.toks + (N.zip (Value.ref a :: ur)).length) k1
  obtain ⟨t2, hobj1⟩ := exo_at I1.hok ha
  have hK1 : K.In h1 := hK0.keeps k1
  have IA : PySem.W.InstAt h1 a { cls := .ref C, dict := none, data := .fields #[.ref t2, .none, .none, .none, .bool false, .none] } C none := ⟨hobj1, rfl, rfl, trivial⟩
  have hini := T.ini
  unfold PySem.W.ks_superIn at hini
  rw [hcdC] at hini
  refine PySem.W.kxs_getMethod PySem.W.kxs_ValueError e1 (PySem.W.looks_opaque hK1 T.st) (l₀ := cdC.mro) ?_ rfl hK1 hini (IA.type.andThen (PySem.W.looks_subIn hK1 T.ve)) (PySem.W.ks_ne hK1 IA hcdC) (by decide) ?_
  · exact fun A Q E s k q => wpAny_bind ((PySem.W.looks_clsIn hK1 hcdC) A _ E s k (wpAny_pure q))
  have k2 : ∀ b o, h1.get? b = some o → (h1.push (PySem.W.kxs_mw "ValueError.__init__" a)).get? b = some o := fun b o e => Heap.get?_push_of_some _ e
  have hu2 : (h1.push (PySem.W.kxs_mw "ValueError.__init__" a)).get? h1.objs.size = some (PySem.W.kxs_mw "ValueError.__init__" a) := Heap.get?_push_at rfl rfl
  have I2 := I1.kept (t' := s.toks + (N.zip (Value.ref a :: ur)).length + 1) k2
  have hfrU : H h1.objs.size = none := I1.hok.fresh (Nat.le_refl _)
  have I3 := I2.pins_of (pins' := [(h1.objs.size, PySem.W.kxs_mw "ValueError.__init__" a)]) (fun p hp => by
    have : p = (h1.objs.size, PySem.W.kxs_mw "ValueError.__init__" a) := by simpa using hp
    subst this
    refine ⟨hu2, hfrU, fun z => ?_, I1.nofs (Nat.le_refl _), fun v z => nomatch z⟩
    have := I1.lt
    rw [← z] at this
    exact absurd this (Nat.lt_irrefl _))
  obtain ⟨tta, harg1, harg2⟩ := harg (.ref cda) cc A outer s H _ Q E hsp
  have ha1 : PA (cxF CX P w K mg base N qual scope f (.ref cda) cc A outer s H E) [arg] (tCons tta tNil) := pa_cons harg1 pa_nil (hst _)
  have hrun := ha1.run pc _ _ _ _ (fun vs H1 => vs.length = 1 ∧ H1 = H) I3 harg2
  rw [hst] at hrun ⊢
  refine PySem.W.kxs_callWith (i := "ValueError.__init__") (x := a) rfl ?_
  refine PySem.Calls.evalArgs_plain (thn hrun fun us s4 hh => ?_)
  obtain ⟨vs4, H4, I4, r4, ev, eH⟩ := hh
  subst eH
  have hpin := (I4.pin (h1.objs.size, PySem.W.kxs_mw "ValueError.__init__" a) (by simp)).1
  refine ⟨hpin, ?_⟩
  have hus : us.length ≤ sizeLine := by
    rw [← r4.length, ev]
    decide
  refine mw_ok T.oex I4 ha hpin hus fun s5 I5 => ?_
  have I6 := I5.pins_of (pins' := []) (fun p hp => absurd hp (by simp))
  refine wpAt_of_wpAny (wpAny_mono (ht.run [] s5 _ _ _ I6 hq) (fun fl s' hs => ?_) fun e s' hs => hs)
  have fin : ∀ {σ' : L2.St} {H' : Hp} {v : V} {u : Value}, Inv (cxF CX P w K mg base N qual scope f (.ref cda) cc A outer s H4 E) [] σ' H' s' → RelV v u → Q v H' → CE outer P w H4 s Q u s' :=
    fun {σ' H' v u} J rv q => ⟨v, H', J.os, J.bare, J.base, J.hok, rv, q⟩
  cases fl with
  | ret u =>
    obtain ⟨v, σ', H', J, rv, q⟩ := hs
    exact fin J rv q
  | next =>
    obtain ⟨σ', H', J, q⟩ := hs
    exact fin (v := V.non) (u := Value.none) J rfl q
  | brk =>
    obtain ⟨_, _, _, q⟩ := hs
    exact q.elim
  | cont =>
    obtain ⟨_, _, _, q⟩ := hs
    exact q.elim
theorem fn_sup {CX : CXT} {P : Program} {w : World} {K : PySem.W.Frag} {mg : Str → Option Value} {base : Heap} {k : Nat} {C f : Addr} {qual self : Str} {params : Arguments} {rest : List Stmt} {scope : Scope} {fd : FuncData} {N ps : List Str} {sp : Sp}
    {p0 p1 pa pc pe : Pos} {msg : Str} {mj : Nat} {pm : Pos}
    (T : SupTxt K mg P C f qual params (.Expr (.Call (.Attribute (.Call (.Name "super" p0) [] [] p1) "__init__" pa) [.Constant (.str msg) mj pm] [] pc) pe :: rest) scope fd self) (S : SupScope N ps self scope)
    (len : ∀ vs H Q E, sp vs H Q E → vs.length = ps.length) (hself : ∀ vs H Q E, sp vs H Q E → ∃ a ws, vs = .ref a :: ws ∧ H a = some (exo a C none))
    (hsw : ∀ (s : Shared) (cd : Value) (cc : Addr), swapsWith (.Call (.Attribute (.Call (.Name "super" p0) [] [] p1) "__init__" pa) [.Constant (.str msg) mj pm] [] pc) none pe.line (PySem.W.envX qual scope s.heap.objs.size f cd [("__class__", cc)]) = pure false)
    (hev : ∀ (s : Shared) (cd : Value) (cc : Addr), ∃ pl : Sem Bool, eval (.Call (.Attribute (.Call (.Name "super" p0) [] [] p1) "__init__" pa) [.Constant (.str msg) mj pm] [] pc) (PySem.W.envX qual scope s.heap.objs.size f cd [("__class__", cc)]) = (do
      let ov ← attributeBase (.Call (.Name "super" p0) [] [] p1) "__init__" (PySem.W.envX qual scope s.heap.objs.size f cd [("__class__", cc)]) (eval (.Call (.Name "super" p0) [] [] p1) (PySem.W.envX qual scope s.heap.objs.size f cd [("__class__", cc)]))
      standAt pa.atName
      let (f', first) ← holding [ov] (getMethod ov "__init__" pl)
      callWith pc f' first (backTo pc (starEach [.Constant (.str msg) mj pm] (PySem.W.envX qual scope s.heap.objs.size f cd [("__class__", cc)]))) []))
    (hbody : ∀ (cd : Value) (cc : Addr) (A : Around) (outer : List PySem.Env) (s : Shared) (H : Hp) (vs : List V) (Q : VK) (E : XK), sp vs H Q E →
      ∃ t, PSs (cxF CX P w K mg base N qual scope f cd cc A outer s H E) rest t ∧ t { nx := fun _ H' => Q .non H', rt := Q } (L2.start N vs) H) :
    FnOk P w K mg base CX (k + 1) f fd ps sp :=
  fn_supA T S len hself hsw hev (fun _ => rfl) (fun _ _ _ _ _ _ _ _ _ _ => ⟨_, pe_str, ⟨rfl, rfl⟩⟩) hbody

end DL
set_option Elab.async false
set_option linter.all false
set_option maxRecDepth 100000
set_option maxHeartbeats 4000000
/-! The data layer: raise, try, defs of the program. -/
namespace DL
open PySem PySem.Spec PyProof.Rows L2

/-! ### errors made -/
theorem paired_append {α β : Type} {F : α → β → Prop} : ∀ {xs xs' : List α} {ys ys' : List β}, Paired F xs ys → Paired F xs' ys' → Paired F (xs ++ xs') (ys ++ ys')
  | _, _, _, _, .nil, h => h
  | _, _, _, _, .cons a t, h => .cons a (paired_append t h)
theorem paired_reverse {α β : Type} {F : α → β → Prop} : ∀ {xs : List α} {ys : List β}, Paired F xs ys → Paired F xs.reverse ys.reverse
  | _, _, .nil => .nil
  | _, _, .cons a t => by
    rw [List.reverse_cons, List.reverse_cons]
    exact paired_append (paired_reverse t) (.cons a .nil)
theorem paired_zip {α β γ : Type} {F : α → β → Prop} : ∀ (ks : List γ) {xs : List α} {ys : List β}, Paired F xs ys → Paired (fun (p : γ × α) (q : γ × β) => p.1 = q.1 ∧ F p.2 q.2) (ks.zip xs) (ks.zip ys)
  | [], _, _, _ => .nil
  | _ :: _, _, _, .nil => by simpa using Paired.nil
  | k :: ks, _, _, .cons a t => .cons ⟨rfl, a⟩ (paired_zip ks t)
def flV (flds : List Str) (lab : Str) (vs : List V) : List (Str × V) := (flds.zip vs).reverse ++ [((("label" : Str), V.str lab) : Str × V)]
def flD (flds : List Str) (lab : Str) (ds : List D) : List (Str × D) := (flds.zip ds).reverse ++ [((("label" : Str), PyData.str lab) : Str × D)]
theorem fr_of {G : Gd} {B : Hp} {vs : List V} {ds : List D} (flds : List Str) (lab : Str) (h : Paired (Dn G.K B) vs ds) : FR G B (flV flds lab vs) (flD flds lab ds) :=
  paired_append (paired_reverse (paired_zip flds h)) (.cons ⟨rfl, .str _⟩ .nil)
/-- what an error's __init__ promises -/
def spE (C : Addr) (lab : Str) (flds : List Str) : Sp := fun vs H Q _ => ∃ a ws, vs = .ref a :: ws ∧ ws.length = flds.length ∧ H a = some (exo a C none) ∧
  ∀ d H2, (∀ b o, b ≠ a → H b = some o → H2 b = some o) → H d = none → d ≠ a → H2 a = some (exo a C (some d)) → H2 d = some (exd d (flV flds lab ws)) → Q .non H2
theorem spE_len {C : Addr} {lab : Str} {flds : List Str} {n : Nat} (hn : flds.length + 1 = n) : ∀ vs H Q E, spE C lab flds vs H Q E → vs.length = n := fun vs H Q E h => by
  obtain ⟨a, ws, rfl, hl, _⟩ := h
  rw [List.length_cons, hl, hn]
theorem spE_arg {C : Addr} {lab : Str} {flds : List Str} {N : List Str} (i : Nat) {vs : List V} {H : Hp} {Q : VK} {E : XK} (h : spE C lab flds vs H Q E) (hi : i < flds.length + 1 := by decide) : tCons (tVar i) tNil (L2.start N vs) H fun us H1 => us.length = 1 ∧ H1 = H := by
  obtain ⟨a, ws, rfl, hl, _⟩ := h
  have h2 : i < (V.ref a :: ws).length := by rw [List.length_cons, hl]; exact hi
  refine ⟨(V.ref a :: ws)[i], ?_, rfl, rfl⟩
  unfold L2.start
  rw [List.getElem?_append_left (by rw [List.length_map]; exact h2), List.getElem?_map, List.getElem?_eq_getElem h2]
  rfl
theorem spE_self {C : Addr} {lab : Str} {flds : List Str} : ∀ vs H Q E, spE C lab flds vs H Q E → ∃ a ws, vs = .ref a :: ws ∧ H a = some (exo a C none) := fun vs H Q E h => by
  obtain ⟨a, ws, e, _, ha, _⟩ := h
  exact ⟨a, ws, e, ha⟩
section
variable {K : PySem.W.Frag} {C : Addr} {lab : Str} {H : Hp} {Q : VK} {E : XK} {vs : List V}
theorem exd_ne {a d : Addr} {H : Hp} {fs : List (Str × V)} {dd : Option Addr} (h : d ≠ a) : upd (upd H d (exd d fs)) a (exo a C dd) d = some (exd d fs) := by rw [upd_ne h, upd_same]
/-- the stores behind super().__init__: the label, then none, one, three fields -/
theorem ost0 (T : OexC K C) (n0 : PySem.W.findIn K (.ref C) "label" = some none) (N : List Str) (h : spE C lab [] vs H Q E) : tOst K "label" (tVar 0) (tC (.str lab)) { nx := fun _ H' => Q .non H', rt := Q } (L2.start ("self" :: N) vs) H := by
  obtain ⟨a, ws, rfl, hl, ha, q⟩ := h
  cases ws with
  | cons _ _ => cases hl
  | nil =>
    refine ⟨.ref a, rfl, a, C, rfl, T, n0, .inl ⟨ha, fun dx hd hne => ?_⟩⟩
    exact q dx _ (fun b o hb e => by rw [upd_ne hb, upd_ne (ne_of_none e hd)]; exact e) hd hne upd_same (exd_ne hne)
theorem ost1 {f : Str} (T : OexC K C) (n0 : PySem.W.findIn K (.ref C) "label" = some none) (n1 : PySem.W.findIn K (.ref C) f = some none) (N : List Str) (h : spE C lab [f] vs H Q E) :
    tSeq (tOst K "label" (tVar 0) (tC (.str lab))) (tOst K f (tVar 0) (tVar 1)) { nx := fun _ H' => Q .non H', rt := Q } (L2.start ("self" :: f :: N) vs) H := by
  obtain ⟨a, ws, rfl, hl, ha, q⟩ := h
  match ws, hl with
  | [v], _ =>
    refine ⟨.ref a, rfl, a, C, rfl, T, n0, .inl ⟨ha, fun dx hd hne => ?_⟩⟩
    refine ⟨v, rfl, .ref a, rfl, a, C, rfl, T, n1, .inr ⟨dx, _, upd_same, exd_ne hne, Nat.le_of_ble_eq_true rfl, ?_⟩⟩
    refine q dx _ (fun b o hb e => ?_) hd hne ?_ upd_same
    · have : b ≠ dx := ne_of_none e hd
      rw [upd_ne this, upd_ne hb, upd_ne this]; exact e
    · rw [upd_ne (Ne.symm hne), upd_same]
theorem ost3 {f g h' : Str} (T : OexC K C) (n0 : PySem.W.findIn K (.ref C) "label" = some none) (n1 : PySem.W.findIn K (.ref C) f = some none) (n2 : PySem.W.findIn K (.ref C) g = some none) (n3 : PySem.W.findIn K (.ref C) h' = some none) (N : List Str) (h : spE C lab [f, g, h'] vs H Q E) :
    tSeq (tOst K "label" (tVar 0) (tC (.str lab))) (tSeq (tOst K f (tVar 0) (tVar 1)) (tSeq (tOst K g (tVar 0) (tVar 2)) (tOst K h' (tVar 0) (tVar 3)))) { nx := fun _ H' => Q .non H', rt := Q } (L2.start ("self" :: f :: g :: h' :: N) vs) H := by
  obtain ⟨a, ws, rfl, hl, ha, q⟩ := h
  match ws, hl with
  | [v, v2, v3], _ =>
    refine ⟨.ref a, rfl, a, C, rfl, T, n0, .inl ⟨ha, fun dx hd hne => ?_⟩⟩
    refine ⟨v, rfl, .ref a, rfl, a, C, rfl, T, n1, .inr ⟨dx, _, upd_same, exd_ne hne, Nat.le_of_ble_eq_true rfl, ?_⟩⟩
    refine ⟨v2, rfl, .ref a, rfl, a, C, rfl, T, n2, .inr ⟨dx, _, by rw [upd_ne (Ne.symm hne), upd_same], upd_same, Nat.le_of_ble_eq_true rfl, ?_⟩⟩
    refine ⟨v3, rfl, .ref a, rfl, a, C, rfl, T, n3, .inr ⟨dx, _, by rw [upd_ne (Ne.symm hne), upd_ne (Ne.symm hne), upd_same], upd_same, Nat.le_of_ble_eq_true rfl, ?_⟩⟩
    refine q dx _ (fun b o hb e => ?_) hd hne ?_ upd_same
    · have : b ≠ dx := ne_of_none e hd
      rw [upd_ne this, upd_ne this, upd_ne this, upd_ne hb, upd_ne this]; exact e
    · rw [upd_ne (Ne.symm hne), upd_ne (Ne.symm hne), upd_ne (Ne.symm hne), upd_same]
end
/-- C() -/
theorem pmk_oex0 {X : Cx} {CX : CXT} {x : Str} {C fI : Addr} {k : Nat} {fd : FuncData} {ps : List Str} {sp : Sp} {p pos : Pos} (T : OexC X.K C) (iC : PySem.W.findIn X.K (.ref C) "__init__" = some (some (.ref fI))) (tI : PySem.W.typeIn X.K (.ref fI) = some (.type "function"))
    (F1 : FnOk X.prog X.w X.K X.mg X.base CX k fI fd ps sp) (hr : Room (k + 1) X.A) (hb : Binds X.K fd ps []) (hx : Passes CX X (fun _ _ _ => False)) (hg : Gl X x) (hm : X.mg x = some (.ref C)) (hdb : (x == ("__debug__" : Str)) = false := by decide) :
    PMk X (.Call (.Name x p) [] [] pos) (tMkO C sp [] tNil) := by
  intro pins s σ H Q I h
  obtain ⟨nm, q, N, bs, bm, sn, sub, ab, col, dd, k0, k1, k2, k3, k5, hC, hbm⟩ := T.cls
  refine wpAny_Call_Name_kw (ld_glob I hg hm ?_ hdb)
  refine PySem.W.callWith_K0 I.kIn T.kC ?_
  obtain ⟨_, q1⟩ := h
  obtain ⟨hp, g, dr, tk, os⟩ := s
  have hsz : hp.objs.size ≤ hp.objs.size + 1 := Nat.le_succ _
  have hn : H (hp.objs.size + 1) = none := I.hok.fresh hsz
  have hq := q1 (hp.objs.size + 1) hn
  have kk : ∀ b o, hp.get? b = some o → ((hp.push (PySem.W.kdv_tup [])).push (PySem.HandSPX.excO C hp.objs.size)).get? b = some o := fun b o e => Heap.get?_push_of_some _ (Heap.get?_push_of_some _ e)
  have hget : ((hp.push (PySem.W.kdv_tup [])).push (PySem.HandSPX.excO C hp.objs.size)).get? (hp.objs.size + 1) = some (PySem.HandSPX.excO C hp.objs.size) := by heap_get
  have I2 := I.laid (t' := tk) (a := hp.objs.size + 1) (o := exo (hp.objs.size + 1) C none) (h' := (hp.push (PySem.W.kdv_tup [])).push (PySem.HandSPX.excO C hp.objs.size)) kk hsz (exo_ok hget)
  have r2 : Vals [V.ref (hp.objs.size + 1)] [Value.ref (hp.objs.size + 1)] := .cons rfl .nil
  have hl : ([Value.ref (hp.objs.size + 1)] ++ []).length = ps.length := by
    have e := F1.len _ _ _ _ hq
    exact e
  have hbb := hb ⟨(hp.push (PySem.W.kdv_tup [])).push (PySem.HandSPX.excO C hp.objs.size), g, dr, tk, os⟩ [Value.ref (hp.objs.size + 1)] I2.kIn hl
  refine wpAny_call (PySem.HandSPX.call_own PySem.F.excBase_ValueError (fun Y => PySem.HandSPX.refsVE_contains Y bm hbm) (I.kIn _ _ hC) (PySem.W.looks_findIn I.kIn iC) (fun self => PySem.W.bind_fn I.kIn self tI) (Nat.zero_le _)
    (codeAny_mono (F1.run _ X.stack _ _ ⟨[Value.ref (hp.objs.size + 1)], []⟩ [Value.ref (hp.objs.size + 1)] _ _ (fun _ _ _ => False) (hr.make C [] []) (I2.env0.make C [] []) hbb r2 hq) fun r s' hq' => ?_))
  cases r with
  | error er => exact hx pins σ _ _ er s' I2 hq'
  | ok fl =>
    cases fl with
    | ret u =>
      obtain ⟨v, H2, os2, bare2, un2, hok2, rv, ev, d, fs, ea, ed, hd1, q2⟩ := hq'
      subst ev
      obtain ⟨h2, g2, d2, t2, os'⟩ := s'
      exact ⟨rv, mk_end (raises_own T.exC T.tyC) I hsz kk un2 hok2 os2 bare2 ea ed hd1 q2⟩
    | next => exact False.elim hq'
    | brk => exact False.elim hq'
    | cont => exact False.elim hq'

section
variable {X : Cx} {pos p ps' : Pos} {e : Expr} {es : List Expr} {G : Gd} {ow owN owL : List Nat} {fs : Env → Rs (List D)} {c : Str} {C fI : Addr} {k : Nat} {fd : FuncData} {ps flds : List Str} {lab : Str}
theorem mk_imp (hmc : G.mg c = some (.ref C)) (hfl : flds.length ≤ 1000) {J : Ends} {σ : L2.St} {H : Hp} (h : cS G ow owN owL (fun γ => liftS (fs γ) γ fun ds => if ds.length = flds.length then .er c (flD flds lab ds) γ else .no) J σ H) :
    tMkO C (spE C lab flds) [] (cA G ow 0 fs) σ H fun cls d H' => G.W cls d σ H' := by
  obtain ⟨B, γ, I, q⟩ := h
  refine ⟨B, γ, I, (OutP.lift I q).imp fun ds q vs B1 H1 x1 hvs => ?_⟩
  split at q
  · rename_i hlen
    have hvl : vs.length = flds.length := by rw [paired_len hvs, hlen]
    refine ⟨by rw [hvl]; exact hfl, fun a ha => ⟨a, vs, by rw [List.append_nil], hvl, upd_same, fun d H2 k hd hda e1 e2 => ⟨rfl, d, _, e1, e2, ?_, ?_⟩⟩⟩
    · rw [upd_ne hda] at hd; exact hd
    · have hd' : H1 d = none := by rw [upd_ne hda] at hd; exact hd
      have hH : Same H1 (upd (del H2 a) d (.xd (flV flds lab vs))) := fun b o eb => by
        have hba : b ≠ a := ne_of_none eb ha
        have hbd : b ≠ d := ne_of_none eb hd'
        rw [upd_ne hbd, del_ne hba]
        exact k b o hba (by rw [upd_ne hba]; exact eb)
      have x2 : Ext B1 H1 B1 (upd (del H2 a) d (.xd (flV flds lab vs))) := ⟨.refl _, hH, x1.s.trans hH, fun _ h _ => h⟩
      obtain ⟨B3, s3, I3⟩ := (I.mono (x1.trans x2)).allF
      exact q C d B3 σ _ _ (x1.b.trans s3) I3 hmc upd_same (fr_of flds lab (Paired.mapP hvs fun _ _ z => Dn.mono s3 z))
  · exact False.elim q
/-- raise C(e, ..) -/
theorem s_raise {CX : CXT} (T : OexC X.K C) (iC : PySem.W.findIn X.K (.ref C) "__init__" = some (some (.ref fI))) (tI : PySem.W.typeIn X.K (.ref fI) = some (.type "function")) (F1 : FnOk X.prog X.w X.K X.mg X.base (L2.CX X.prog X.w) k fI fd ps (spE C lab flds))
    (hr : Room (k + 1) X.A) (hb : Binds X.K fd ps []) (tk : Takes X G.W) (hm : X.mg c = some (.ref C)) (ha : PA X (e :: es) (cA G ow 0 fs)) (hfl : flds.length ≤ 1000 := by decide) (hmc : X.mg = G.mg := by rfl) (hg : Gl X c := by rfl) (hc : X.calm = true := by rfl)
    (hdb : (c == ("__debug__" : Str)) = false := by decide) (he : starEach (e :: es) X.env = (false, eval e X.env) :: starEach es X.env := by rfl) (hpl : (backTo pos (starEach es X.env)).any (·.1) = false := by rfl) :
    PS X (.Raise (some (.Call (.Name c p) (e :: es) [] pos)) none ps') (cS G ow owN owL fun γ => liftS (fs γ) γ fun ds => if ds.length = flds.length then .er c (flD flds lab ds) γ else .no) :=
  (ps_raise hc tk (pmk_oex T iC tI F1 hr hb .nil passL hg hm ha hdb he hpl)).impD fun J σ H h => mk_imp (by rw [← hmc]; exact hm) hfl h
theorem s_raise0 {CX : CXT} (T : OexC X.K C) (iC : PySem.W.findIn X.K (.ref C) "__init__" = some (some (.ref fI))) (tI : PySem.W.typeIn X.K (.ref fI) = some (.type "function")) (F1 : FnOk X.prog X.w X.K X.mg X.base (L2.CX X.prog X.w) k fI fd ps (spE C lab []))
    (hr : Room (k + 1) X.A) (hb : Binds X.K fd ps []) (tk : Takes X G.W) (hm : X.mg c = some (.ref C)) (hmc : X.mg = G.mg := by rfl) (hg : Gl X c := by rfl) (hc : X.calm = true := by rfl) (hdb : (c == ("__debug__" : Str)) = false := by decide) :
    PS X (.Raise (some (.Call (.Name c p) [] [] pos)) none ps') (cS G ow owN owL fun γ => .er c (flD [] lab []) γ) :=
  (ps_raise hc tk (pmk_oex0 T iC tI F1 hr hb passL hg hm hdb)).impD fun J σ H h => by
    obtain ⟨B, γ, I, q⟩ := h
    refine ⟨Nat.zero_le _, fun a ha => ⟨a, [], rfl, rfl, upd_same, fun d H2 k hd hda e1 e2 => ⟨rfl, d, _, e1, e2, ?_, ?_⟩⟩⟩
    · rw [upd_ne hda] at hd; exact hd
    · have hd' : H d = none := by rw [upd_ne hda] at hd; exact hd
      have hH : Same H (upd (del H2 a) d (.xd (flV [] lab []))) := fun b o eb => by
        have hba : b ≠ a := ne_of_none eb ha
        have hbd : b ≠ d := ne_of_none eb hd'
        rw [upd_ne hbd, del_ne hba]
        exact k b o hba (by rw [upd_ne hba]; exact eb)
      have x2 : Ext B H B (upd (del H2 a) d (.xd (flV [] lab []))) := ⟨.refl _, hH, I.s.trans hH, fun _ h _ => h⟩
      obtain ⟨B3, s3, I3⟩ := (I.mono x2).allF
      exact q C d B3 σ _ _ s3 I3 (by rw [← hmc]; exact hm) upd_same (fr_of [] lab .nil)
end

/-! ### a def's promise on data -/
def spD (K : PySem.W.Frag) (mg : Str → Option Value) (n : Nat) (F : List D → Rs D) : Sp := fun vs H Q E => vs.length = n ∧ ∃ B ds, Same B H ∧ Paired (Dn K B) vs ds ∧ match F ds with
  | .ok d => ∀ v B' H', Ext B H B' H' → Dn K B' v d → Q v H'
  | .er c fs => ∀ C dd B' H' fs', Ext B H B' H' → mg c = some (.ref C) → H' dd = some (.xd fs') → Paired (fun (p : Str × V) (q : Str × D) => p.1 = q.1 ∧ Dn K B' p.2 q.2) fs' fs → E (.ref C) (some dd) H'
  | .no => False
theorem spD_len {K : PySem.W.Frag} {mg : Str → Option Value} {n : Nat} {F : List D → Rs D} : ∀ vs H Q E, spD K mg n F vs H Q E → vs.length = n := fun _ _ _ _ h => h.1
/-- a def's body as a function of its arguments -/
def callS (m : Nat) (f : Env → Out) (ds : List D) : Rs D := match f (ds.map some ++ List.replicate (m - ds.length) none) with
  | .rt d => .ok d
  | .nx _ => .ok .none
  | .er c fs _ => .er c fs
  | _ => .no
theorem spD_imp {K : PySem.W.Frag} {mg : Str → Option Value} {n : Nat} {F F' : List D → Rs D} (h : ∀ ds, F ds = F' ds) {vs : List V} {H : Hp} {Q : VK} {E : XK} (s : spD K mg n F' vs H Q E) : spD K mg n F vs H Q E := by
  have : F = F' := funext h
  rw [this]; exact s
section
variable {P : Program} {w : World} {K : PySem.W.Frag} {mg : Str → Option Value} {base : Heap}
theorem ok_of {x qual : Str} {st : Stmt} {f : Addr} {fd : FuncData} {N ps : List Str} {k : Nat} {g : Env → Out} {owN : List Nat} (F : Fun K x qual st f fd) (S : FnScope N ps (defScope st))
    (hbody : ∀ (cdv : Value) (A : Around) (outer : List PySem.Env) (s : Shared) (H B : Hp) (E : XK), Room k (A.deeper (envOfC qual (defScope st) s.heap.objs.size f cdv)) →
      PSs (cxOf (L2.CX P w) P w K mg base N qual (defScope st) f cdv A outer s H E) (defBody st) (cS ⟨K, mg, fun cls d _ H' => E cls d H', B, H, none⟩ (List.replicate N.length 0) owN [] g)) :
    FnOk P w K mg base (L2.CX P w) (k + 1) f fd ps (spD K mg ps.length (callS N.length g)) := by
  refine F.okX S (fun vs H Q E h => h.1) fun cdv A outer s H vs Q E hr h => ?_
  obtain ⟨hl, B, ds, sB, hds, h⟩ := h
  refine ⟨_, hbody cdv A outer s H B E hr, ?_⟩
  refine ⟨B, ds.map some ++ List.replicate (N.length - ds.length) none, ⟨sB, .refl sB, ?_, (fun t z => nomatch z), fun _ _ => False, fun _ _ z => False.elim z, fun _ _ _ z => False.elim z, fun i d e => ?_⟩, ?_⟩
  · unfold L2.start
    rw [List.length_append, List.length_append, List.length_map, List.length_map, List.length_replicate, List.length_replicate, paired_len hds]
  · have hi : i < ds.length := by
      by_cases hi : i < ds.length
      · exact hi
      · rw [List.getElem?_append_right (by rw [List.length_map]; omega), List.getElem?_replicate] at e
        split at e <;> cases e
    rw [List.getElem?_append_left (by rw [List.length_map]; exact hi), List.getElem?_map, Option.map_eq_some_iff] at e
    obtain ⟨z, e1, e2⟩ := e
    cases e2
    obtain ⟨v, e3, e4⟩ := (DnAll.of_paired hds).get e1
    refine ⟨v, ?_, ?_⟩
    · unfold L2.start
      rw [List.getElem?_append_left (by rw [List.length_map, paired_len hds]; exact hi), List.getElem?_map, e3]
      rfl
    · have : (List.replicate N.length 0).getD i 0 = 0 := by
        rw [List.getD_eq_getElem?_getD, List.getElem?_replicate]
        split <;> rfl
      rw [this]
      exact e4
  · unfold callS at h
    cases hf : g (ds.map some ++ List.replicate (N.length - ds.length) none) with
    | rt d =>
      rw [hf] at h
      exact fun v B' H' s' x hv => h v B' H' x hv
    | nx γ =>
      rw [hf] at h
      exact fun B' σ' H' s' I => h .non B' H' I.e .non
    | er c fs γ =>
      rw [hf] at h
      exact fun C dd B' σ' H' fs' s' I h1 h2 h3 => h C dd B' H' fs' I.e h1 h2 h3
    | bk γ => rw [hf] at h; exact False.elim h
    | ct γ => rw [hf] at h; exact False.elim h
    | no => rw [hf] at h; exact False.elim h
end
section
variable {X : Cx} {x : Str} {p pos : Pos} {e : Expr} {es : List Expr} {G : Gd} {ow : List Nat} {fs : Env → Rs (List D)} {k n : Nat} {f : Addr} {fd : FuncData} {ps : List Str} {F : List D → Rs D}
theorem call_imp (hK : X.K = G.K) (hmc : X.mg = G.mg) {σ : L2.St} {H : Hp} {Q : VK} {B : Hp} {γ : Env} (I : EnvR G ow B H σ γ) {ds : List D} {vs : List V} {B1 H1 : Hp} (x1 : Ext B H B1 H1) (hvs : Paired (DnF G.K B1 H1 0) vs ds) (hn : vs.length = n)
    (q : RsP G σ B H (F ds) fun d => ∀ v B' H', Ext B H B' H' → DnF G.K B' H' 0 v d → Q v H') : spD X.K X.mg n F vs H1 Q (WE G.W σ) := by
  refine ⟨hn, B1, ds, x1.s, by rw [hK]; exact hvs, ?_⟩
  cases hF : F ds with
  | ok d =>
    rw [hF] at q
    exact fun v B' H' x2 hv => q v B' H' (x1.trans x2) (by rw [← hK]; exact hv)
  | er c fs =>
    rw [hF] at q
    exact fun C dd B' H' fs' x2 h1 h2 h3 => q C dd B' H' fs' (x1.trans x2) (by rw [← hmc]; exact h1) h2 (by show Paired (fun (p : Str × V) (q : Str × D) => p.1 = q.1 ∧ Dn G.K B' p.2 q.2) fs' fs; rw [← hK]; exact h3)
  | no => rw [hF] at q; exact False.elim q
def nArgs (n : Nat) (F : List D → Rs D) (ds : List D) : Rs D := if ds.length = n then F ds else .no
theorem d_call (Fn : FnOk X.prog X.w X.K X.mg X.base (L2.CX X.prog X.w) k f fd ps (spD X.K X.mg n F)) (hr : Room k X.A) (hm : X.mg x = some (.ref f)) (hk : PySem.W.keepIn X.K (.ref f) = true) (hb : Binds X.K fd ps []) (tk : Takes X G.W) (ha : PA X (e :: es) (cA G ow 0 fs))
    (hg : Gl X x := by rfl) (hK : X.K = G.K := by rfl) (hmc : X.mg = G.mg := by rfl) (hdb : (x == ("__debug__" : Str)) = false := by decide) (he : starEach (e :: es) X.env = (false, eval e X.env) :: starEach es X.env := by rfl) (hpl : (backTo pos (starEach es X.env)).any (·.1) = false := by rfl) :
    PE X (.Call (.Name x p) (e :: es) [] pos) (cV G ow 0 fun γ => (fs γ).bind fun ds => nArgs n F ds) :=
  (pe_callS Fn hr hg hm hk hb (fun σ => passAt tk σ) ha hdb he hpl).impD fun σ H Q ⟨B, γ, I, q⟩ => ⟨B, γ, I, q.bind.imp fun ds q vs B1 H1 x1 hvs => by
    unfold nArgs at q
    split at q
    · rename_i hn
      exact call_imp hK hmc I x1 hvs (by rw [paired_len hvs, hn]) q
    · exact False.elim q⟩
theorem d_call0 (Fn : FnOk X.prog X.w X.K X.mg X.base (L2.CX X.prog X.w) k f fd ps (spD X.K X.mg 0 F)) (hr : Room k X.A) (hm : X.mg x = some (.ref f)) (hk : PySem.W.keepIn X.K (.ref f) = true) (hb : Binds X.K fd ps [])
    (hno : ∀ c fs, F [] ≠ .er c fs) (hg : Gl X x := by rfl) (hK : X.K = G.K := by rfl) (hmc : X.mg = G.mg := by rfl) (hdb : (x == ("__debug__" : Str)) = false := by decide) :
    PE X (.Call (.Name x p) [] [] pos) (cV G ow 0 fun _ => F []) :=
  (pe_call0 Fn hr hg hm hk hb .nil passL hdb).impD fun σ H Q ⟨B, γ, I, q⟩ => by
    refine ⟨rfl, B, [], I.s, .nil, ?_⟩
    cases hF : F [] with
    | ok d =>
      rw [hF] at q
      exact fun v B' H' x2 hv => q v B' H' x2 (by rw [← hK]; exact hv)
    | er c fs => exact absurd hF (hno c fs)
    | no => rw [hF] at q; exact False.elim q
end
end DL
set_option Elab.async false
set_option linter.all false
set_option maxRecDepth 100000
set_option maxHeartbeats 4000000
/-! The data layer: try with several except clauses, with and without a name. -/
namespace DL
open PySem PySem.Spec PyProof.Rows L2

abbrev Sui : Type := Addr → Value → Option Addr → TS
/-- behind a suite that bears a name in slot i -/
def goneE (D : Ends) (i : Nat) : Ends := { nx := fun σ H => D.nx (σ.set i none) H, rt := D.rt, bk := fun σ H => D.bk (σ.set i none) H, ct := fun σ H => D.ct (σ.set i none) H }
def wMix (K : PySem.W.Frag) (Wout : WX) (D : Ends) : List (Value × Option Nat × Sui) → WX
  | [] => Wout
  | (c, none, ts) :: r => fun cls d σ H => ∃ b, PySem.W.exmOne K cls c = some b ∧ (b = true → ∀ a, H a = none → ts a cls d D σ H) ∧ (b = false → wMix K Wout D r cls d σ H)
  | (c, some i, ts) :: r => fun cls d σ H => ∃ b, PySem.W.exmOne K cls c = some b ∧ (b = true → ∀ a, H a = none → ts a cls d (goneE D i) (σ.set i (some (.ref a))) H) ∧ (b = false → wMix K Wout D r cls d σ H)
def SuiOk (X : Cx) (suite : List Stmt) (ts : Sui) : Prop := ∀ (a : Addr) (oe : Obj) (cls : Value) (d : Option Addr) (pn : List (Addr × Obj)), Zc cls d oe → (∃ vs, oe.data = .fields vs) → PSs (X.suite a ((a, oe) :: pn)) suite (ts a cls d)
inductive MixOk (X : Cx) : List ExceptHandler → List (Value × Option Nat × Sui) → Prop
  | nil : MixOk X [] []
  | bare {x : Str} {c : Value} {ts : Sui} {b₀ : Stmt} {suite : List Stmt} {np pos' : Pos} {hds : List ExceptHandler} {l : List (Value × Option Nat × Sui)} (hc : Names X x c) (hsu : SuiOk X (b₀ :: suite) ts) (r : MixOk X hds l) :
      MixOk X (.ExceptHandler (some (.Name x np)) none (b₀ :: suite) pos' :: hds) ((c, none, ts) :: l)
  | named {x n : Str} {i : Nat} {c : Value} {ts : Sui} {b₀ : Stmt} {suite : List Stmt} {np pos' : Pos} {hds : List ExceptHandler} {l : List (Value × Option Nat × Sui)} (hc : Names X x c) (hi : X.N[i]? = some n) (hln : X.env.kindOf n = some .local) (hsu : SuiOk X (b₀ :: suite) ts) (r : MixOk X hds l) :
      MixOk X (.ExceptHandler (some (.Name x np)) (some n) (b₀ :: suite) pos' :: hds) ((c, some i, ts) :: l)

section
variable {X : Cx} {body : List Stmt} {h₀ : ExceptHandler} {hds : List ExceptHandler} {l : List (Value × Option Nat × Sui)} {pos : Pos} {tb : WX → TS} {Wout : WX}
/-- the end of a body or a suite, one level out -/
theorem sp_out {X Y : Cx} {pins pins' : List (Addr × Obj)} {D : Ends} {f : Flow} {s : Shared} (h : SP X pins D f s) (hI : ∀ σ H, Inv X pins σ H s → Inv Y pins' σ H s) : SP Y pins' D f s := by
  cases f with
  | ret u => obtain ⟨v, σ, H, J, r, q⟩ := h; exact ⟨v, σ, H, hI σ H J, r, q⟩
  | next => obtain ⟨σ, H, J, q⟩ := h; exact ⟨σ, H, hI σ H J, q⟩
  | brk => obtain ⟨σ, H, J, q⟩ := h; exact ⟨σ, H, hI σ H J, q⟩
  | cont => obtain ⟨σ, H, J, q⟩ := h; exact ⟨σ, H, hI σ H J, q⟩
/-- no clause takes it: it goes on -/
theorem pass_on {pins : List (Addr × Obj)} {D : Ends} {a : Addr} {B : Heap} {sI s' : Shared} {σ' : L2.St} {H' : Hp} {cls : Value} {d : Option Addr} {h3 : Heap} (hs : X.stack = X.env :: X.outer) (hf : X.env.frame = some X.env.locals) (tk : Takes X Wout)
    (fl3 : HandSPX.FlyingZ B (X.env :: X.outer) a (Zc cls d) h3) (J : Inv X pins σ' H' sI) (nb : ∀ b o, sI.heap.get? b = some o → b ∉ frs X.stack → B.get? b = some o) (up : sI.heap.UpToSlots h3) (na : H' a = none) (os : s'.os = sI.os) (ag : AllBare s'.gens) (w : Wout cls d σ' H') :
    wpAny (model X.prog X.w) X.A (handleBy (.ref a) X.env []) (SP X pins D) X.xe { s' with heap := h3 } := by
  obtain ⟨k1, k2, k3, oe, vs, T, oT, ts', he, hz, hd, h1, hr⟩ := id fl3
  refine wpAny_handleBy_nil ?_
  have fin : wpAny (model X.prog X.w) X.A (setFlight (.ref a) X.env.frame) (fun _ s4 => wpAny (model X.prog X.w) X.A (throw (.ref a) : Sem Flow) (SP X pins D) X.xe s4) X.xe { s' with heap := h3 } := by
    rw [hf]
    exact HandSPX.setFlight_upZ fl3 fun h4 hh4 up4 => wpAny_throw (tk _ _ ⟨a, B, sI, pins, σ', H', cls, d, rfl, J, nb, up.trans up4, .inr (.inr (by rw [hs]; exact hh4)), na, os, ag, w⟩)
  unfold PySem.passOn
  refine wpAny_bind (wpAny_field he hd h1 ?_)
  have ne : ¬ ((Value.ref T == Value.none) = true) := by simp
  rw [if_neg ne]
  first
    | exact wpAny_bind (wpAny_pure (wpAny_bind fin))
    | exact wpAny_bind fin
theorem ps_try_mix (hN : X.N.Nodup) (hs : X.stack = X.env :: X.outer) (hf : X.env.frame = some X.env.locals) (tk : Takes X Wout)
    (hb : ∀ (W : WX) (pn : List (Addr × Obj)) (xe : Value → Shared → Prop), Takes (X.tr pn xe) W → PassesOwn (model X.prog X.w) X.A X.env xe → PSs (X.tr pn xe) body (tb W))
    (hh : MixOk X (h₀ :: hds) l) : PS X (.Try body (h₀ :: hds) [] [] pos) (fun D σ H => tb (wMix X.K Wout D l) D σ H) := by
  refine ⟨fun pins s σ H D I h => ?_⟩
  have ok := I.ok
  refine wpAny_Try_except ?_
  refine wpAny_mono ((hb (wMix X.K Wout D l) (X.pn ++ pins) (fun e s₁ => wpAny (model X.prog X.w) X.A (noteFrame e X.env) (fun _ s₂ => wpAny (model X.prog X.w) X.A (setFlight e none) (fun _ s₃ =>
    wpAny (model X.prog X.w) X.A (handleBy e X.env (h₀ :: hds)) (SP X pins D) X.xe s₃) X.xe s₂) X.xe s₁) (fun u s' xx => ?_) PassesOwn.looking).run [] s σ H D (I.toTry _) h) (fun f s1 hsp => ?_) (fun e s1 he => he)
  · obtain ⟨a, B, sI, pins', σ', H', cls, d, rfl, J', nb, up, sky, na, os, ag, w⟩ := xx
    have J : Inv X pins σ' H' sI := J'.ofTry ok
    have hfr : X.A.frames = some (X.env :: X.outer) := by rw [ok.frames, hs]
    have sky' : Sky B (X.env :: X.outer) a (Zc cls d) X.env.locals s'.heap := by rw [← hs]; exact sky
    show wpAny (model X.prog X.w) X.A (noteFrame (.ref a) X.env) _ _ _
    refine Sky.land Zc.steady hfr hf sky' fun h3 fl3 up3 => ?_
    have J3 : Inv X pins σ' H' { s' with heap := h3 } := J.landed nb fl3.1 (up.trans up3) os ag
    obtain ⟨oe3, vs3, he3, hz3, hd3⟩ := fl3.there
    have nfr : a ∉ frs (X.env :: X.outer) := fun hm => by
      obtain ⟨_, o', e', hnf⟩ := fl3.2.2.1.mem hm
      rw [he3] at e'
      cases e'
      exact hnf _ hd3
    have nL : a ≠ X.env.locals := fun z => nfr (List.mem_filterMap.mpr ⟨X.env, List.mem_cons_self, by rw [hf, z]⟩)
    have nF : a ∉ X.fs := fun hm => by
      obtain ⟨e, he, q⟩ := List.mem_filterMap.mp hm
      exact nfr (List.mem_filterMap.mpr ⟨e, List.mem_cons_of_mem _ he, q⟩)
    have S3 := J3.suite he3 hd3 na nL nF
    have LT : PySem.W.Looks (model X.prog X.w) h3 (typeOf (.ref a)) cls := fun A Q E s k q => wpAny_typeOf_ref (k _ _ he3) (by rw [hz3.1]; exact q)
    have test : ∀ {x : Str} {c : Value} {np : Pos} {Q : Value → Shared → Prop} {E : Value → Shared → Prop}, Names X x c → Q c { s' with heap := h3 } → wpAny (model X.prog X.w) (X.A.mark (some (.ref a))) (eval (.Name x np) X.env) Q E { s' with heap := h3 } := fun {x c np Q E} hc q => by
      obtain ⟨hg, hdbg, hm⟩ := hc
      rcases hm with hm | ⟨hm, hv, hnn⟩
      · exact ld_glob (X := X.suite a ((a, oe3) :: (X.pn ++ pins))) S3 hg hm q hdbg
      · exact ld_blt (X := X.suite a ((a, oe3) :: (X.pn ++ pins))) S3 hg hm hv q hnn hdbg
    have again : ∀ {Q : Unit → Shared → Prop}, (∀ s4 oe4, Inv (X.suite a ((a, oe4) :: (X.pn ++ pins))) [] σ' H' s4 → Zc cls d oe4 → (∃ vs, oe4.data = .fields vs) → Q () s4) → wpAny (model X.prog X.w) (X.A.mark (some (.ref a))) (setFlight (.ref a) none) Q (fun _ _ => False) { s' with heap := h3 } := fun {Q} hq => by
      refine HandSPX.lands_againZ fl3 fun h4 fl4 up4 => ?_
      have J4 : Inv X pins σ' H' { s' with heap := h4 } := J.landed nb fl4.1 ((up.trans up3).trans up4) os ag
      obtain ⟨oe4, vs4, he4, hz4, hd4⟩ := fl4.there
      exact hq _ oe4 (J4.suite he4 hd4 na nL nF) hz4 ⟨_, hd4⟩
    have go : ∀ {hds' : List ExceptHandler} {l' : List (Value × Option Nat × Sui)}, MixOk X hds' l' → wMix X.K Wout D l' cls d σ' H' →
        wpAny (model X.prog X.w) X.A (handleBy (.ref a) X.env hds') (SP X pins D) X.xe { s' with heap := h3 } := by
      intro hds' l' hk
      induction hk with
      | nil => exact fun w => pass_on hs hf tk fl3 J nb (up.trans up3) na os ag w
      | bare hc hsu r ih =>
        intro w
        obtain ⟨b, hb1, hyes, hno⟩ := w
        refine wpAny_handleBy_cons (codeAny_handlers_test ?_) (by intro q; cases q)
        refine test hc ((PySem.W.exm_one (M := model X.prog X.w) J3.kIn LT hb1).here ?_)
        cases b with
        | false => exact ih (hno rfl)
        | true =>
          refine codeAny_handlers_suite ?_
          refine wpAny_mono (again (Q := fun _ s4 => ∃ oe4, Inv (X.suite a ((a, oe4) :: (X.pn ++ pins))) [] σ' H' s4 ∧ Zc cls d oe4 ∧ ∃ vs, oe4.data = .fields vs) fun s4 oe4 S4 hz4 hd4 => ⟨oe4, S4, hz4, hd4⟩) (fun _ s4 h4 => ?_) (fun _ _ z => False.elim z)
          obtain ⟨oe4, S4, hz4, hd4⟩ := h4
          exact wpAny_mono ((hsu a oe4 cls d (X.pn ++ pins) hz4 hd4).run [] _ _ H' _ S4 (hyes rfl a na)) (fun f s6 hsp => sp_out hsp fun _ _ S => S.unsuite ok) (fun _ _ z => False.elim z)
      | @named x n i c ts b₀ suite np pos' hds2 l2 hc hi hln hsu r ih =>
        intro w
        obtain ⟨b, hb1, hyes, hno⟩ := w
        refine wpAny_handleBy_cons (codeAny_handlers_test ?_) (by intro q; cases q)
        refine test hc ((PySem.W.exm_one (M := model X.prog X.w) J3.kIn LT hb1).here ?_)
        cases b with
        | false => exact ih (hno rfl)
        | true =>
          refine codeAny_handlers_suite_as ?_
          refine wpAny_mono (again (Q := fun _ s4 => ∃ oe4, Inv (X.suite a ((a, oe4) :: (X.pn ++ pins))) [] σ' H' s4 ∧ Zc cls d oe4 ∧ ∃ vs, oe4.data = .fields vs) fun s4 oe4 S4 hz4 hd4 => ⟨oe4, S4, hz4, hd4⟩) (fun _ s4 h4 => ?_) (fun _ _ z => False.elim z)
          obtain ⟨oe4, S4, hz4, hd4⟩ := h4
          refine store_ok (X := X.suite a ((a, oe4) :: (X.pn ++ pins))) (v := .ref a) S4 hN hi (.inl hln) rfl (fun s5 S5 => ?_) (.inr hln)
          refine wpAny_mono ((hsu a oe4 cls d (X.pn ++ pins) hz4 hd4).run [] s5 _ H' _ S5 (hyes rfl a na)) (fun f s6 hsp => ?_) (fun _ _ z => False.elim z)
          have end_ : ∀ {σ6 : L2.St} {H6 : Hp} {Q : Shared → Prop}, Inv (X.suite a ((a, oe4) :: (X.pn ++ pins))) [] σ6 H6 s6 → (∀ s7, Inv X pins (σ6.set i none) H6 s7 → Q s7) →
              wpAny (model X.prog X.w) X.A (do bindName X.env n .none; unbindBehindTheSuite X.env n pos') (fun _ s7 => Q s7) X.xe s6 := fun {σ6 H6 Q} S6 hq => gone_ok (S6.unsuite ok) hN hi hln hq
          cases f with
          | ret u => obtain ⟨v6, σ6, H6, S6, r6, q6⟩ := hsp; exact end_ S6 fun s7 J7 => ⟨_, _, _, J7, r6, q6⟩
          | next => obtain ⟨σ6, H6, S6, q6⟩ := hsp; exact end_ S6 fun s7 J7 => ⟨_, _, J7, q6⟩
          | brk => obtain ⟨σ6, H6, S6, q6⟩ := hsp; exact end_ S6 fun s7 J7 => ⟨_, _, J7, q6⟩
          | cont => obtain ⟨σ6, H6, S6, q6⟩ := hsp; exact end_ S6 fun s7 J7 => ⟨_, _, J7, q6⟩
    exact go hh w
  · have hsp' : SP X pins D f s1 := sp_out hsp fun _ _ J => J.ofTry ok
    cases f with
    | next =>
      obtain ⟨σ', H', J', q⟩ := hsp'
      exact wpAny_execs_nil ⟨σ', H', J', q⟩
    | brk => exact hsp'
    | cont => exact hsp'
    | ret u => exact hsp'
end

/-! ### on data -/
/-- class c is caught by a clause that names h -/
def isSub (c h : Str) : Bool := c == h || h == "TrickError"
abbrev HFn : Type := List (Str × D) → Env → Out
def rtO : Out → Out
  | .rt d => .rt d
  | _ => .no
def gone (γ : Env) : Option Nat → Option Env
  | none => some γ
  | some i => if i < γ.length then some (γ.set i none) else none
def catchS (c : Str) (fs : List (Str × D)) (γ : Env) : List (Str × Option Nat × HFn) → Out
  | [] => .er c fs γ
  | (h, o, f) :: r => if isSub c h = true then (match gone γ o with
    | some γ1 => rtO (f fs γ1)
    | none => .no) else catchS c fs γ r
def tryS (errs : List Str) (g : Env → Out) (l : List (Str × Option Nat × HFn)) : Env → Out := fun γ => match g γ with
  | .er c fs γ' => if errs.contains c = true then catchS c fs γ' l else .no
  | o => o
/-- the ground of a suite -/
abbrev Gd.sui (G : Gd) (o : Option Nat) (a dd : Addr) (fs' : List (Str × V)) (B H : Hp) : Gd := { K := G.K, mg := G.mg, W := fun _ _ _ _ => False, B := B, H := H, x := o.map fun i => (i, a, dd, fs') }
def suiX (G : Gd) (cv : Value) (o : Option Nat) (f : HFn) : Sui := fun a cls d J σ H => ∃ B γ dd fs' fs dv, d = some dd ∧ (o.isSome = true → cls = cv) ∧ H dd = some (.xd fs') ∧ FR G B fs' fs ∧ EnvR (G.sui o a dd fs' B H) [] B H σ γ ∧ f fs γ = .rt dv ∧ ∀ v B' H', Ext B H B' H' → Dn G.K B' v dv → J.rt v H'
theorem sui_ok {X : Cx} {G : Gd} {suite : List Stmt} {cv : Value} {o : Option Nat} {f : HFn} (h : ∀ (a : Addr) (oe : Obj) (cls : Value) (d : Option Addr) (pn : List (Addr × Obj)) (B H : Hp) (dd : Addr) (fs' : List (Str × V)) (fs : List (Str × D)), Zc cls d oe → (∃ vs, oe.data = .fields vs) → d = some dd → (o.isSome = true → cls = cv) → FR G B fs' fs →
      PSs (X.suite a ((a, oe) :: pn)) suite (cS (G.sui o a dd fs' B H) [] [] [] (f fs))) : SuiOk X suite (suiX G cv o f) := fun a oe cls d pn hz hf => ⟨fun pins s σ H J I q => by
  obtain ⟨B, γ, dd, fs', fs, dv, rfl, hcl, hxd, hfr, I', hdv, q⟩ := q
  refine (h a oe cls _ pn B H dd fs' fs hz hf rfl hcl hfr).run pins s σ H J I ⟨B, γ, I', ?_⟩
  rw [hdv]
  exact fun v B' H' _ x hv => q v B' H' x hv⟩
inductive CatOk (X : Cx) (G : Gd) (errs : List Str) : List ExceptHandler → List (Str × Option Nat × HFn) → List (Value × Option Nat × Sui) → Prop
  | nil : CatOk X G errs [] [] []
  | bare {h : Str} {c : Value} {f : HFn} {b₀ : Stmt} {suite : List Stmt} {np pos' : Pos} {hds : List ExceptHandler} {l : List (Str × Option Nat × HFn)} {m : List (Value × Option Nat × Sui)} (hc : Names X h c) (hm : ∀ e ∈ errs, ∀ C, G.mg e = some (.ref C) → PySem.W.exmOne X.K (.ref C) c = some (isSub e h))
      (hsu : SuiOk X (b₀ :: suite) (suiX G c none f)) (r : CatOk X G errs hds l m) : CatOk X G errs (.ExceptHandler (some (.Name h np)) none (b₀ :: suite) pos' :: hds) ((h, none, f) :: l) ((c, none, suiX G c none f) :: m)
  | named {h n : Str} {i : Nat} {C : Addr} {f : HFn} {b₀ : Stmt} {suite : List Stmt} {np pos' : Pos} {hds : List ExceptHandler} {l : List (Str × Option Nat × HFn)} {m : List (Value × Option Nat × Sui)} (hc : Names X h (.ref C)) (hgc : G.mg h = some (.ref C)) (hT : (h == ("TrickError" : Str)) = false) (hm : ∀ e ∈ errs, ∀ C', G.mg e = some (.ref C') → PySem.W.exmOne X.K (.ref C') (.ref C) = some (isSub e h))
      (hi : X.N[i]? = some n) (hln : X.env.kindOf n = some .local) (hsu : SuiOk X (b₀ :: suite) (suiX G (.ref C) (some i) f)) (r : CatOk X G errs hds l m) :
      CatOk X G errs (.ExceptHandler (some (.Name h np)) (some n) (b₀ :: suite) pos' :: hds) ((h, some i, f) :: l) ((.ref C, some i, suiX G (.ref C) (some i) f) :: m)
theorem CatOk.mix {X : Cx} {G : Gd} {errs : List Str} {hds : List ExceptHandler} {l : List (Str × Option Nat × HFn)} {m : List (Value × Option Nat × Sui)} (h : CatOk X G errs hds l m) : MixOk X hds m := by
  induction h with
  | nil => exact .nil
  | bare hc hm hsu r ih => exact .bare hc hsu ih
  | named hc hgc hT hm hi hln hsu r ih => exact .named hc hi hln hsu ih
theorem rtO_rt {G : Gd} {owN owL : List Nat} {B : Hp} {J : Ends} {o : Out} (h : OutP G owN owL B J (rtO o)) : ∃ d, o = .rt d ∧ ∀ v B' H', Same B B' → Ext G.B G.H B' H' → Dn G.K B' v d → J.rt v H' := by
  cases o with
  | rt d => exact ⟨d, rfl, h⟩
  | nx _ => exact h.elim
  | bk _ => exact h.elim
  | ct _ => exact h.elim
  | er _ _ _ => exact h.elim
  | no => exact h.elim
theorem CatOk.wish {X : Cx} {G : Gd} {errs : List Str} {owN owL : List Nat} {B : Hp} {J : Ends} {c : Str} {fs : List (Str × D)} {γ : Env} (hx : G.x = none) (he : errs.contains c = true) {C dd : Addr} {B' H' : Hp} {σ' : L2.St} {fs' : List (Str × V)} (s : Same B B') (I : EnvR G [] B' H' σ' γ) (hmc : G.mg c = some (.ref C)) (hxd : H' dd = some (.xd fs')) (hfr : FR G B' fs' fs)
    {hds : List ExceptHandler} {l : List (Str × Option Nat × HFn)} {m : List (Value × Option Nat × Sui)} (h : CatOk X G errs hds l m) : OutP G owN owL B J (catchS c fs γ l) → wMix X.K G.W J m (.ref C) (some dd) σ' H' := by
  have hmem : c ∈ errs := by simpa using he
  have vv : ∀ i d, γ[i]? = some (some d) → ∃ v, σ'[i]? = some (some v) ∧ Dn G.K B' v d := fun i d e => by
    obtain ⟨own, _, _, h3⟩ := I.v
    obtain ⟨v, e1, r⟩ := h3 i d e
    exact ⟨v, e1, r⟩
  induction h with
  | nil => exact fun q => q C dd B' σ' H' fs' s I hmc hxd hfr
  | @bare h c' f _ _ _ _ _ _ _ hc hm hsu r ih =>
    intro q
    unfold catchS at q
    refine ⟨isSub c h, hm c hmem C hmc, fun hb a ha => ?_, fun hb => ?_⟩
    · rw [if_pos hb] at q
      obtain ⟨dv, e1, q⟩ := rtO_rt (show OutP G owN owL B J (rtO (f fs γ)) from q)
      exact ⟨B', γ, dd, fs', fs, dv, rfl, (fun z => nomatch z), hxd, hfr, ⟨I.s, .refl I.s, I.len, (fun t z => nomatch z), fun _ _ => False, fun _ _ z => False.elim z, fun _ _ _ z => False.elim z, vv⟩, e1, fun v B2 H2 x hv => q v B2 H2 (s.trans x.b) (I.e.trans x) hv⟩
    · rw [if_neg (by rw [hb]; decide)] at q
      exact ih q
  | @named h n i C' f _ _ _ _ _ _ _ hc hgc hT hm hi hln hsu r ih =>
    intro q
    unfold catchS at q
    refine ⟨isSub c h, hm c hmem C hmc, fun hb a ha => ?_, fun hb => ?_⟩
    · rw [if_pos hb] at q
      unfold gone at q
      dsimp only at q
      split at q
      · rename_i γ1 hγ1
        split at hγ1
        · rename_i hlt
          cases hγ1
          obtain ⟨dv, e1, q⟩ := rtO_rt q
          have hch : c = h := by
            unfold isSub at hb
            rw [hT, Bool.or_false] at hb
            simpa using hb
          subst hch
          rw [hgc] at hmc
          cases hmc
          refine ⟨B', γ.set i none, dd, fs', fs, dv, rfl, fun _ => rfl, hxd, hfr, ⟨I.s, .refl I.s, by rw [List.length_set, List.length_set, I.len], fun t z => ?_, fun _ _ => False, fun _ _ z => False.elim z, fun _ _ _ z => False.elim z, fun j d e => ?_⟩, e1, fun v B2 H2 x hv => q v B2 H2 (s.trans x.b) (I.e.trans x) hv⟩
          · cases z
            exact ⟨List.getElem?_set_self (by rw [← I.len]; exact hlt), hxd⟩
          · by_cases z : j = i
            · subst z
              rw [List.getElem?_set_self hlt] at e
              cases e
            · rw [List.getElem?_set_ne (Ne.symm z)] at e
              obtain ⟨v, e2, e3⟩ := vv j d e
              exact ⟨v, by rw [List.getElem?_set_ne (Ne.symm z)]; exact e2, e3⟩
        · cases hγ1
      · exact False.elim q
    · rw [if_neg (by rw [hb]; decide)] at q
      exact ih q
section
variable {X : Cx} {body : List Stmt} {h₀ : ExceptHandler} {hds : List ExceptHandler} {pos : Pos} {G : Gd} {ow owN owL : List Nat} {g : Env → Out}
theorem s_try (errs : List Str) {l : List (Str × Option Nat × HFn)} {m : List (Value × Option Nat × Sui)} (hN : X.N.Nodup) (tk : Takes X G.W)
    (hb : ∀ (W : WX) (pn : List (Addr × Obj)) (xe : Value → Shared → Prop), Takes (X.tr pn xe) W → PassesOwn (model X.prog X.w) X.A X.env xe → PSs (X.tr pn xe) body (cS { G with W := W } ow owN owL g)) (hh : CatOk X G errs (h₀ :: hds) l m)
    (hs : X.stack = X.env :: X.outer := by rfl) (hf : X.env.frame = some X.env.locals := by rfl) (hx : G.x = none := by rfl) : PS X (.Try body (h₀ :: hds) [] [] pos) (cS G ow owN owL (tryS errs g l)) :=
  (ps_try_mix (tb := fun W => cS { G with W := W } ow owN owL g) hN hs hf tk hb hh.mix).impD fun J σ H ⟨B, γ, I, q⟩ => by
    refine ⟨B, γ, ⟨I.s, I.e, I.len, I.x, I.v⟩, ?_⟩
    unfold tryS at q
    cases hg : g γ with
    | nx γ1 => rw [hg] at q; exact fun B' σ' H' s I' => q B' σ' H' s ⟨I'.s, I'.e, I'.len, I'.x, I'.v⟩
    | rt d => rw [hg] at q; exact q
    | bk γ1 => rw [hg] at q; exact fun B' σ' H' s I' => q B' σ' H' s ⟨I'.s, I'.e, I'.len, I'.x, I'.v⟩
    | ct γ1 => rw [hg] at q; exact fun B' σ' H' s I' => q B' σ' H' s ⟨I'.s, I'.e, I'.len, I'.x, I'.v⟩
    | no => rw [hg] at q; exact q
    | er c fs γ1 =>
      rw [hg] at q
      dsimp only at q
      split at q
      · rename_i he
        exact fun C dd B' σ' H' fs' s I' h1 h2 h3 => hh.wish hx he s ⟨I'.s, I'.e, I'.len, I'.x, I'.v⟩ h1 h2 h3 q
      · exact False.elim q
/-- e.f in a suite -/
theorem fr_lookup {G : Gd} {B : Hp} {n : Str} {d : D} : ∀ {fs' : List (Str × V)} {fs : List (Str × D)}, FR G B fs' fs → fs.lookup n = some d → ∃ v, fs'.lookup n = some v ∧ Dn G.K B v d
  | _, _, .nil, h => by cases h
  | (k, v) :: r, (k', d') :: r', .cons a t, h => by
    obtain ⟨rfl, a2⟩ := (show k = k' ∧ Dn G.K B v d' from a)
    rw [List.lookup_cons] at h ⊢
    cases hk : (n == k) with
    | true => rw [hk] at h; cases h; exact ⟨v, rfl, a2⟩
    | false => rw [hk] at h; exact fr_lookup t h
theorem d_fld {X : Cx} {a C : Addr} {oe : Obj} {cls : Value} {d : Option Addr} {pn : List (Addr × Obj)} {x n : Str} {p p' : Pos} {i : Nat} {dd : Addr} {fs' : List (Str × V)} {fs : List (Str × D)} {B H : Hp} (T : XfC X.K C) (hno : PySem.W.findIn X.K (.ref C) n = some none) (hz : Zc cls d oe) (hf : ∃ vs, oe.data = .fields vs) (hd : d = some dd) (hcl : cls = .ref C) (hfr : FR G B fs' fs)
    (hi : X.N[i]? = some x := by rfl) (hv : Vis X.env.scope x := by first | exact Or.inl rfl | exact Or.inr (Or.inl rfl) | exact Or.inr (Or.inr rfl)) (hdb : (x == ("__debug__" : Str)) = false := by decide) (hcd : (x == ("__classdict__" : Str)) = false := by decide)
    (hb : attributeBase (.Name x p) n X.env (eval (.Name x p) X.env) = eval (.Name x p) X.env := by rfl) :
    PE (X.suite a ((a, oe) :: pn)) (.Attribute (.Name x p) n p') (cV (G.sui (some i) a dd fs' B H) ow 0 fun _ => oR (fs.lookup n)) :=
  (pe_xf T hno hz hf (pe_var (X := X.suite a ((a, oe) :: pn)) hi hv hdb hcd) hb).impD fun σ H' Q ⟨B', γ, I, q⟩ => by
    obtain ⟨z, ez, q⟩ := q.oR
    obtain ⟨x1, x2⟩ := I.x _ rfl
    obtain ⟨v, e1, e2⟩ := fr_lookup hfr ez
    exact ⟨.ref a, x1, rfl, hcl, dd, fs', v, hd, x2, e1, q v B' H' (.refl I.s) (Dn.mono I.e.b e2)⟩
end
end DL
set_option Elab.async false
set_option linter.all false
set_option maxRecDepth 100000
set_option maxHeartbeats 4000000
/-! The data layer: short words for what the rules make; the end of a law. -/
namespace DL
open PySem PySem.Spec PyProof.Rows L2

@[simp] abbrev eV (i : Nat) : Env → Rs D := fun γ => gE γ i
@[simp] abbrev eC (d : D) : Env → Rs D := fun _ => .ok d
@[simp] abbrev eL (f : Env → Rs (List D)) : Env → Rs D := fun γ => (f γ).map PyData.list
@[simp] abbrev eT (f : Env → Rs (List D)) : Env → Rs D := fun γ => (f γ).bind fun ds => oR (szT ds)
@[simp] abbrev nL (f : Env → Rs (List D)) : Env → Rs (List D) := fun γ => (f γ).bind fun ds => oR (szL ds)
@[simp] abbrev aN : Env → Rs (List D) := fun _ => .ok []
@[simp] abbrev aC (f : Env → Rs D) (fs : Env → Rs (List D)) : Env → Rs (List D) := fun γ => (f γ).bind fun d => (fs γ).map fun ds => d :: ds
@[simp] abbrev cB {α : Type} (fs : Env → Rs (List D)) (F : List D → Option α) : Env → Rs α := fun γ => (fs γ).bind fun ds => oR (F ds)
@[simp] abbrev cF (n : Nat) (fs : Env → Rs (List D)) (F : List D → Rs D) : Env → Rs D := fun γ => (fs γ).bind fun ds => nArgs n F ds
@[simp] abbrev oN : Env → Rs (Option Int) := fun _ => .ok none
@[simp] abbrev oS (f : Env → Rs D) : Env → Rs (Option Int) := fun γ => (f γ).bind fun d => oR (intO d)
@[simp] abbrev nCut (f : Env → Rs D) (l h : Env → Rs (Option Int)) : Env → Rs (List D) := fun γ => (f γ).bind fun d => (l γ).bind fun l => (h γ).bind fun h => oR (cutLD l h d)
@[simp] abbrev nRep (f : Env → Rs (List D)) (g : Env → Rs D) : Env → Rs (List D) := fun γ => (f γ).bind fun ds => (g γ).bind fun e => oR (repD ds e)
@[simp] abbrev eAnd (f g : Env → Rs D) : Env → Rs D := fun γ => andVR (f γ) (g γ)
@[simp] abbrev eOr (f g : Env → Rs D) : Env → Rs D := fun γ => orVR (f γ) (g γ)
@[simp] abbrev tAnd' (f g : Env → Rs Bool) : Env → Rs Bool := fun γ => andR (f γ) (g γ)
@[simp] abbrev tOr' (f g : Env → Rs Bool) : Env → Rs Bool := fun γ => orR (f γ) (g γ)
@[simp] abbrev tNot' (f : Env → Rs Bool) : Env → Rs Bool := fun γ => (f γ).map not
@[simp] abbrev eIf {α : Type} (t : Env → Rs Bool) (f g : Env → Rs α) : Env → Rs α := fun γ => (t γ).bind fun z => if z = true then f γ else g γ
@[simp] abbrev eCh (F F' : D → D → Option D) (f g h : Env → Rs D) : Env → Rs D := fun γ => (f γ).bind fun d => (g γ).bind fun e => chainD F F' d e (h γ)
@[simp] abbrev nLc (vs : List Nat) (fi : Env → Rs (List D)) (t : D → Env → Option Env) (c : Env → Rs Bool) (f : Env → Rs D) : Env → Rs (List D) := fun γ => (fi γ).bind fun ds => compR vs t c f ds γ
@[simp] abbrev eIdx (f : Env → Rs D) (fs : Env → Rs (List D)) : Env → Rs D := fun γ => (f γ).bind fun d => (oR (plO d)).bind fun _ => (fs γ).bind fun ds => oR (idxD d ds)
@[simp] abbrev sNx : Env → Out := fun γ => .nx γ
@[simp] abbrev sBk : Env → Out := fun γ => .bk γ
@[simp] abbrev sCt : Env → Out := fun γ => .ct γ
@[simp] abbrev sSet (i : Nat) (f : Env → Rs D) : Env → Out := fun γ => liftS (f γ) γ fun d => .nx (γ.set i (some d))
@[simp] abbrev sNew (i : Nat) (f : Env → Rs (List D)) : Env → Out := fun γ => liftS (f γ) γ fun ds => .nx (γ.set i (some (.list ds)))
@[simp] abbrev sAug (i : Nat) (f : Env → Rs D) (F : D → D → Option D) : Env → Out := fun γ => liftS ((gE γ i).bind fun d => (f γ).bind fun z => oR (F d z)) γ fun d => .nx (γ.set i (some d))
@[simp] abbrev sRet (f : Env → Rs D) : Env → Out := fun γ => liftS (f γ) γ .rt
@[simp] abbrev sRetN : Env → Out := fun _ => .rt .none
@[simp] abbrev sEx (f : Env → Rs D) : Env → Out := fun γ => liftS (f γ) γ fun _ => .nx γ
@[simp] abbrev sFor (fi : Env → Rs (List D)) (t : D → Env → Option Env) (b : Env → Out) : Env → Out := fun γ => liftS (fi γ) γ fun ds => forS t b ds γ
@[simp] abbrev sWh (t : Env → Rs Bool) (b : Env → Out) : Env → Out := fun γ => whileS t b FUEL γ
@[simp] abbrev sRa (c : Str) (flds : List Str) (lab : Str) (fs : Env → Rs (List D)) : Env → Out := fun γ => liftS (fs γ) γ fun ds => if ds.length = flds.length then .er c (flD flds lab ds) γ else .no
@[simp] abbrev sRa0 (c lab : Str) : Env → Out := fun γ => .er c (flD [] lab []) γ

/-! a slice of anything -/
def cutAD (lo hi : Option Int) : D → Option D
  | .list ds => some (.list (cutD ds lo hi))
  | .dict [(.none, .list ds)] => some (.list (cutD ds lo hi))
  | .tuple ds => if ¬ (HT.sIx ds.length 0 lo = 0 ∧ HT.sIx ds.length ds.length hi = ds.length) then some (.tuple (cutD ds lo hi)) else none
  | .str z => if z.length ≤ LIM then some (.str (cutS z lo hi)) else none
  | _ => none
@[simp] abbrev eCut (f : Env → Rs D) (l h : Env → Rs (Option Int)) : Env → Rs D := fun γ => (f γ).bind fun d => (l γ).bind fun l => (h γ).bind fun h => oR (cutAD l h d)
section
variable {X : Cx} {a e : Expr} {pos : Pos} {G : Gd} {ow owL : List Nat} {f : Env → Rs D}
theorem d_cut {lo hi : Option Expr} {fl fh : Env → Rs (Option Int)} {p2 : Pos} (ha : PE X a (cV G ow 1 f)) (hl : PO X lo (cO G ow fl)) (hh : PO X hi (cO G ow fh)) (hK : X.K = G.K := by rfl) :
    PE X (.Subscript a (.Slice lo hi none p2) pos) (cV G ow 0 (eCut f fl fh)) :=
  (pe_slice (SlR.or (hK ▸ sl_list) (SlR.or (hK ▸ sl_tup) sl_str)) ha hl hh).impD fun σ H Q ⟨B, γ, I, q⟩ => ⟨B, γ, I, q.bind.imp fun d q1 v B1 H1 x1 hv => ⟨B1, γ, I.mono x1, q1.bind.mono x1 fun l q2 B2 H2 x2 => ⟨B2, γ, I.mono (x1.trans x2), q2.bind.mono (x1.trans x2) fun u q3 B3 H3 x3 => by
    obtain ⟨z, ez, q⟩ := q3.oR
    have x23 := x2.trans x3
    unfold cutAD at ez
    split at ez
    · rename_i ds
      cases ez
      obtain ⟨p, us, rfl, h1, h2⟩ := (hv.mono x23).items x23.s
      exact .inl ⟨p, us, rfl, .inl h1, fun r hr => q (.ref r) _ _ ((x1.trans x23).trans (.new x23.s hr)) (.lst (.inl upd_same) ((cut_all (.of_paired h2) l u).mono (same_new (same_none x23.s hr))))⟩
    · rename_i ds
      cases ez
      obtain ⟨p, us, rfl, _, h1, h2⟩ := DnF.rol x23.s (hv.mono x23)
      exact .inl ⟨p, us, rfl, h1, fun r hr => q (.ref r) _ _ ((x1.trans x23).trans (.new x23.s hr)) (.lst (.inl upd_same) ((cut_all h2 l u).mono (same_new (same_none x23.s hr))))⟩
    · rename_i ds
      split at ez
      · rename_i hc
        cases ez
        obtain ⟨p, us, rfl, h1, h2⟩ := (hv.mono x23).tups x23.s
        exact .inr (.inl ⟨p, us, rfl, h1, by rw [h2.length]; exact hc, fun r hr => q (.ref r) _ _ ((x1.trans x23).trans (.new x23.s hr)) (.tup upd_same ((cut_all h2 l u).mono (same_new (same_none x23.s hr))))⟩)
      · cases ez
    · rename_i t
      split at ez
      · rename_i hc
        cases ez
        exact .inr (.inr ⟨t, (hv.mono x23).str, lim_le hc, q _ B3 H3 (x1.trans x23) (Dn.str _)⟩)
      · cases ez
    · cases ez⟩⟩⟩
/-! a, b = x, y -/
@[simp] abbrev sPar (i j : Nat) (fs : Env → Rs (List D)) : Env → Out := fun γ => liftS (fs γ) γ fun ds => match ds with
  | [d, e] => .nx ((γ.set i (some d)).set j (some e))
  | _ => .no
theorem s_par {ow' : List Nat} {x y : Str} {b : Expr} {px py pt pt2 : Pos} {kt k2 : Nat} {fs : Env → Rs (List D)} (i j : Nat) (hij : i ≠ j) (ha : PA X [a, b] (cA G ow 0 fs)) (hN : X.N.Nodup) (hw : (ow.set i 0).set j 0 = ow' := by rfl) (hi : X.N[i]? = some x := by rfl) (hj : X.N[j]? = some y := by rfl)
    (hx : X.env.scope.names.lookup x = some .local := by rfl) (hy : X.env.scope.names.lookup y = some .local := by rfl) (hg : G.x = none := by rfl) (hc : X.calm = true := by rfl)
    (hsw : swappedStores [.Tuple [.Name x px, .Name y py] kt pt] (.Tuple [a, b] k2 pt2) X.env = pure (some [x, y]) := by rfl)
    (hs : swapsWithSole [.Tuple [.Name x px, .Name y py] kt pt] (.Tuple [a, b] k2 pt2) pos.line X.env = pure false := by rfl) :
    PS X (.Assign [.Tuple [.Name x px, .Name y py] kt pt] (.Tuple [a, b] k2 pt2) pos) (cS G ow ow' owL (sPar i j fs)) :=
  (ps_par hc hN hi hj hij hx hy ha hsw hs).impD fun J σ H ⟨B, γ, I, q⟩ => ⟨B, γ, I, (OutP.lift I q).imp fun ds q vs B1 H1 x1 hvs => by
    split at q
    · rename_i d e
      cases hvs with
      | cons h t =>
        cases t with
        | cons h' t' =>
          cases t'
          refine ⟨_, _, rfl, q B1 _ H1 x1.b ?_⟩
          rw [← hw]
          exact ((I.mono x1).set i hg h).set j hg h'
    · exact False.elim q⟩
/-! a, b, .. = a tuple -/
@[simp] abbrev sUnp (t : D → Env → Option Env) (f : Env → Rs D) : Env → Out := fun γ => liftS (f γ) γ fun d => match t d γ with
  | some γ1 => .nx γ1
  | none => .no
theorem s_unp {tg : Expr} {vs : List Nat} {t : D → Env → Option Env} (he : PE X e (cV G ow 0 f)) (hg : PG X tg (cG G ow vs t)) (hs : swapsWithSole [tg] e pos.line X.env = pure false := by rfl) (hw : swappedStores [tg] e X.env = pure none := by rfl)
    (h1 : (assignEach [tg] X.env).map (·.2) = [assign tg X.env] := by rfl) : PS X (.Assign [tg] e pos) (cS G ow ow owL (sUnp t f)) :=
  (ps_asg he hg hs hw h1).impD fun J σ H ⟨B, γ, I, q⟩ => ⟨B, γ, I, (OutP.lift I q).imp fun d q v B1 H1 x1 hv => by
    split at q
    · rename_i γ1 ht
      exact ⟨B1, γ, d, γ1, I.mono x1, hv, ht, fun σ' _ I' => q B1 σ' H1 x1.b I'⟩
    · exact False.elim q⟩
end

/-! ### what the written part says of the errors -/
structure ErrTx (K : PySem.W.Frag) (mg : Str → Option Value) (P : Program) (c : Str) (ps flds : List Str) (C fI : Addr) (fd : FuncData) : Prop where
  oex : OexC K C
  iC : PySem.W.findIn K (.ref C) "__init__" = some (some (.ref fI))
  tI : PySem.W.typeIn K (.ref fI) = some (.type "function")
  m : mg c = some (.ref C)
  b : Binds K fd ps []
  ok : ∀ (w : World) (base : Heap), FnOk P w K mg base (L2.CX P w) 1 fI fd ps (spE C c flds)
  xf : XfC K C
  nf : ∀ f ∈ flds, PySem.W.findIn K (.ref C) f = some none
theorem free_of {sc : Scope} (h : (sc.names.all fun p => p.2 != .free || p.1 == ("__class__" : Str)) = true) : ∀ y, sc.names.lookup y = some .free → y = "__class__" := fun y e => by
  have := List.all_eq_true.mp h _ (PySem.mem_of_lookup e)
  simpa using this
theorem oex_cls {K : PySem.W.Frag} {C : Addr} (T : OexC K C) : ∃ cd, PySem.W.clsIn K C = some cd := by
  obtain ⟨nm, q, N, bs, bm, sn, sub, ab, col, dd, k0, k1, k2, k3, k5, hC, _⟩ := T.cls
  exact ⟨_, by unfold PySem.W.clsIn; rw [hC]⟩
def ExmAll (K : PySem.W.Frag) (mg : Str → Option Value) (h : Str) (cv : Value) (es : List Str) : Prop := ∀ e ∈ es, ∀ C, mg e = some (.ref C) → PySem.W.exmOne K (.ref C) cv = some (isSub e h)
theorem exm_nil {K : PySem.W.Frag} {mg : Str → Option Value} {h : Str} {cv : Value} : ExmAll K mg h cv [] := fun _ z => nomatch z
theorem exm_cons {K : PySem.W.Frag} {mg : Str → Option Value} {h e : Str} {cv : Value} {C : Addr} {b : Bool} {es : List Str} (hm : mg e = some (.ref C)) (hx : PySem.W.exmOne K (.ref C) cv = some b) (r : ExmAll K mg h cv es) (hb : b = isSub e h := by decide) : ExmAll K mg h cv (e :: es) := fun e' he C' hC' => by
  rcases List.mem_cons.mp he with z | z
  · subst z
    rw [hm] at hC'
    cases hC'
    rw [hx, hb]
  · exact r e' z C' hC'
/-! ### the law -/
def spL (K : PySem.W.Frag) : Sp := fun vs H Q _ => ∃ (a : Addr) (ns : List Int), vs = [.ref a] ∧ ns.length ≤ 63 ∧ SqL K H a (ns.map V.int) ∧ ∀ H', Q (.bl true) H'
theorem law_imp {K : PySem.W.Frag} {mg : Str → Option Value} {F : List D → Rs D} (h : ∀ ns : List Int, ns.length ≤ 63 → F [rolD (ns.map PyData.int)] = .ok (.bool true)) : ∀ vs H Q E, spL K vs H Q E → spD K mg 1 F vs H Q E := fun vs H Q E s => by
  obtain ⟨a, ns, rfl, hl, hS, q⟩ := s
  refine ⟨rfl, H, [rolD (ns.map PyData.int)], .refl _, .cons (.rol hS (DnAll.of_ints ns)) .nil, ?_⟩
  rw [h ns hl]
  intro v B' H' x hv
  cases hv
  exact q H'
theorem cx_no {P : Program} {w : World} (H : Hp) (s : Shared) (e : Value) (s' : Shared) : L2.CX P w [] H s (fun _ _ _ => False) e s' → False := fun ⟨_, _, _, _, _, _, _, _, _, _, _, _, z⟩ => z
end DL
set_option Elab.async false
set_option linter.all false
set_option maxRecDepth 100000
set_option maxHeartbeats 4000000
/-! The data layer: constants of the module, op=, isinstance. -/
namespace DL
open PySem PySem.Spec PyProof.Rows L2
section
variable {X : Cx} {e : Expr} {x : Str} {p pos tpos p2 : Pos} {G : Gd} {ow : List Nat} {f : Env → Rs D}
theorem d_gint {i : Int} (h : ∃ u, X.mg x = some u ∧ RelV (.int i) u) (hg : Gl X x := by rfl) (hd : (x == ("__debug__" : Str)) = false := by decide) : PE X (.Name x pos) (cV G ow 0 (eC (.int i))) := d_c (C8.pe_gc hg h hd) fun _ => .int _
/-! op= -/
theorem hr_subA {K : PySem.W.Frag} : HR K (rI0 fun i j => .int (i - j)) subD := hr_I0 fun _ _ _ => .int _
def addA (d e : D) : Option D := match d, e with
  | .int i, .int j => some (.int (i + j))
  | .str x, .str y => if x.length + y.length ≤ LIM then some (.str (x ++ y)) else none
  | _, _ => none
theorem addA_or {d e z : D} (h : addA d e = some z) : addI d e = some z ∨ addS d e = some z := by
  unfold addA at h
  split at h
  · exact .inl h
  · exact .inr h
  · cases h
abbrev rAddA : R2 := fun x y H Q => (rI0 fun i j => .int (i + j)) x y H Q ∨ (∃ i j, x = .str i ∧ y = .str j ∧ i.length + j.length ≤ sizeLine ∧ Q (.str (i ++ j)) H)
theorem hr_addA {K : PySem.W.Frag} : HR K rAddA addA := (HP.or (hr_I0 (F := fun i j => .int (i + j)) fun _ _ _ => .int _) hr_addS).impP fun _ _ _ h => addA_or h
theorem iop_addA : OpR X (inplaceOp .Add) rAddA := OpR.or iop_add iop_add_str
theorem hr_mulA {K : PySem.W.Frag} : HR K (rI CMul fun i j => .int (i * j)) mulD := hr_I (fun i j h => by
  have h := of_decide_eq_true h
  exact h) fun _ _ _ => .int _
theorem hr_fdivA {K : PySem.W.Frag} : HR K (rI CDivW fun i j => .int (i / j)) fdivD := hr_I (fun i j h => by
  have h := of_decide_eq_true h
  exact ⟨h.1, log2_64 h.1 h.2⟩) fun _ _ _ => .int _
theorem hr_modA {K : PySem.W.Frag} : HR K (rI (fun _ j => 0 < j) fun i j => .int (i % j)) modD := hr_I (fun i j h => of_decide_eq_true h) fun _ _ _ => .int _
/-! isinstance(x, T) -/
def isiN (T : String) : D → Option Bool
  | .none => kitB "NoneType" T
  | .bool _ => kitB "bool" T
  | .int _ => kitB "int" T
  | .str _ => kitB "str" T
  | .list _ => kitB "list" T
  | .tuple _ => kitB "tuple" T
  | .dict [(.none, .list _)] => none
  | .dict [(.bool true, .dict _)] => none
  | .dict [(.bool false, .tuple _)] => none
  | .dict [(.bool false, .int _)] => none
  | .dict _ => kitB "dict" T
def isiD (T : String) (d : D) : Option D := (isiN T d).map PyData.bool
def tyName : D → String
  | .none => "NoneType"
  | .bool _ => "bool"
  | .int _ => "int"
  | .str _ => "str"
  | .list _ => "list"
  | .tuple _ => "tuple"
  | _ => "dict"
theorem rd_ty {K : PySem.W.Frag} {H : Hp} {a : Addr} {xs : List V} (h : Rd H a (.lst xs)) : TyX K H (.ref a) (.type "list") := by
  rcases h with h | ⟨o, h⟩
  · exact .base (.lst h)
  · exact .base (.frz h)
theorem sq_ty {K : PySem.W.Frag} {H : Hp} {a : Addr} {xs : List V} (h : SqT K H a xs) : TyX K H (.ref a) (.type "tuple") := by
  rcases h with h | ⟨cs, us, n, h1, h2, _⟩
  · rcases h with h | ⟨o, h⟩
    · exact .base (.tup h)
    · exact .fTuple h
  · exact .kTuple h1 h2
theorem dn_ty {K : PySem.W.Frag} {B H : Hp} {v : V} {d : D} {T : String} {b : Bool} (s : Same B H) (h : DnF K B H 1 v d) (hi : isiN T d = some b) : ∃ n, TyX K H v (.type n) ∧ kitB n T = some b := by
  have h' := h.flu s
  cases h' with
  | non => exact ⟨_, .base .non, hi⟩
  | bl x => exact ⟨_, .base (.bl x), hi⟩
  | int x => exact ⟨_, .base (.int x), hi⟩
  | str x => exact ⟨_, .base (.str x), hi⟩
  | lst h1 h2 => exact ⟨_, rd_ty h1, hi⟩
  | tup h1 h2 => exact ⟨_, sq_ty (.inl (.inl h1)), hi⟩
  | dic h1 h2 =>
    refine ⟨_, .base (.dK h1), ?_⟩
    cases h2 with
    | nil => exact hi
    | cons h3 h4 =>
      rename_i k v kvs d es
      cases k with
      | inl i => exact hi
      | inr i => exact hi
  | dct h1 h2 =>
    refine ⟨_, .base (.dT h1), ?_⟩
    cases h2 with
    | nil => exact hi
    | cons h3 h4 => exact hi
  | lkk h1 h2 => cases hi
  | lkt h1 h2 => cases hi
  | rng h1 => cases hi
  | adr => cases hi
  | rol h1 h2 => cases hi
theorem d_isi (T : String) (hm : X.mg "isinstance" = none) (hmt : X.mg x = none) (hv : bootBuiltins x = some (.type T)) (ha : PE X e (cV G ow 1 f)) (hg : Gl X "isinstance" := by rfl) (hgt : Gl X x := by rfl) (hn : x ≠ "__name__" := by decide) (hdb : (x == ("__debug__" : Str)) = false := by decide)
    (he : starEach [e, .Name x p2] X.env = (false, eval e X.env) :: starEach [.Name x p2] X.env := by rfl) (hpl : (backTo pos (starEach [.Name x p2] X.env)).any (·.1) = false := by rfl) (he2 : starEach [.Name x p2] X.env = [(false, eval (.Name x p2) X.env)] := by rfl) (hK : X.K = G.K := by rfl) :
    PE X (.Call (.Name "isinstance" p) [e, .Name x p2] [] pos) (cV G ow 0 (b1 f (isiD T))) :=
  (pe_callB call_isi hg hm rfl (pa_cons ha (pa_cons (pe_bltn (v := .ty T) hgt hmt hv rfl hn hdb) pa_nil he2) he) (by decide) (by decide) he hpl).impD fun σ H Q ⟨B, γ, I, q⟩ => by
    refine ⟨B, γ, I, q.bind.imp fun d q v B1 H1 x1 hv => ?_⟩
    obtain ⟨z, ez, q⟩ := q.oR
    obtain ⟨b, e1, e2⟩ := Option.map_eq_some_iff.mp ez
    subst e2
    obtain ⟨n, t1, t2⟩ := dn_ty x1.s hv e1
    exact ⟨v, .ty T, .type n, .type T, b, rfl, .ty T, hK ▸ t1, kit_ty t2, q (.bl b) B1 H1 x1 (.bl b)⟩
end
/-! a comparison as a test -/
section
variable {X : Cx} {a b : Expr} {pos : Pos} {G : Gd} {ow : List Nat} {f g : Env → Rs D}
theorem t_cmp {op : CmpOp} {r : R2} {F : D → D → Option D} (hr : HR G.K r F) (ho : OpR X (compareOp op) r) (hm : behindInMarks op b = false) (ha : PE X a (cV G ow 1 f)) (hb : PE X b (cV G ow 1 g)) : PT X (.Compare a [op] [b] pos) (cT G ow (b1 (b2 f g F) boolO)) :=
  (pt_cmpR ho ha hb hm).impD fun σ H Q ⟨B, γ, I, q⟩ => ⟨B, γ, I, q.bind.bind.imp fun d q v B1 H1 x1 hv => ⟨B1, γ, I.mono x1, q.bind.mono x1 fun e q u B2 H2 x2 hu => by
    obtain ⟨z, ez, q⟩ := q.oR
    obtain ⟨k, ek, q⟩ := q.oR
    refine hr.run x2.s (hv.mono x2) hu ez fun w B3 H3 x3 hw => ?_
    unfold boolO at ek
    split at ek
    · cases ek
      cases hw
      exact ⟨_, rfl, q B3 H3 ((x1.trans x2).trans x3)⟩
    · cases ek⟩⟩
theorem t_lt (ha : PE X a (cV G ow 1 f)) (hb : PE X b (cV G ow 1 g)) : PT X (.Compare a [.Lt] [b] pos) (cT G ow (b1 (b2 f g ltD) boolO)) := t_cmp (hr_I0 fun _ _ _ => .bl _) op_lt (nomark _) ha hb
theorem t_le (ha : PE X a (cV G ow 1 f)) (hb : PE X b (cV G ow 1 g)) : PT X (.Compare a [.LtE] [b] pos) (cT G ow (b1 (b2 f g leD) boolO)) := t_cmp (hr_I0 fun _ _ _ => .bl _) op_le (nomark _) ha hb
theorem t_gt (ha : PE X a (cV G ow 1 f)) (hb : PE X b (cV G ow 1 g)) : PT X (.Compare a [.Gt] [b] pos) (cT G ow (b1 (b2 f g gtD) boolO)) := t_cmp (hr_I0 fun _ _ _ => .bl _) op_gt (nomark _) ha hb
theorem t_ge (ha : PE X a (cV G ow 1 f)) (hb : PE X b (cV G ow 1 g)) : PT X (.Compare a [.GtE] [b] pos) (cT G ow (b1 (b2 f g geD) boolO)) := t_cmp (hr_I0 fun _ _ _ => .bl _) op_ge (nomark _) ha hb
theorem t_eq {n : Nat} (hr : Room n X.A) (ha : PE X a (cV G ow 1 f)) (hb : PE X b (cV G ow 1 g)) (hK : X.K = G.K := by rfl) : PT X (.Compare a [.Eq] [b] pos) (cT G ow (b1 (b2 f g eqD) boolO)) := t_cmp hr_eq (hK ▸ op_eqD hr.units) (nomark _) ha hb
theorem t_ne {n : Nat} (hr : Room n X.A) (ha : PE X a (cV G ow 1 f)) (hb : PE X b (cV G ow 1 g)) (hK : X.K = G.K := by rfl) : PT X (.Compare a [.NotEq] [b] pos) (cT G ow (b1 (b2 f g neD) boolO)) := t_cmp hr_ne (hK ▸ op_neD hr.units) (nomark _) ha hb
theorem t_in {n : Nat} (hr : Room n X.A) (ha : PE X a (cV G ow 1 f)) (hb : PE X b (cV G ow 1 g)) (hm : behindInMarks .In b = false := by rfl) (hK : X.K = G.K := by rfl) : PT X (.Compare a [.In] [b] pos) (cT G ow (b1 (b2 f g (inD false)) boolO)) :=
  t_cmp (r := rIn2 G.K false) hr_in (hK ▸ OpR.or op_in_seq (op_inD (by have := hr.un; omega))) hm ha hb
theorem t_notin {n : Nat} (hr : Room n X.A) (ha : PE X a (cV G ow 1 f)) (hb : PE X b (cV G ow 1 g)) (hm : behindInMarks .NotIn b = false := by rfl) (hK : X.K = G.K := by rfl) : PT X (.Compare a [.NotIn] [b] pos) (cT G ow (b1 (b2 f g (inD true)) boolO)) :=
  t_cmp (r := rIn2 G.K true) hr_in (hK ▸ OpR.or op_notIn_seq (op_notInD (by have := hr.un; omega))) hm ha hb
end
end DL
set_option Elab.async false
set_option linter.all false
set_option maxRecDepth 100000
set_option maxHeartbeats 4000000
/-! The data layer: own lists of own lists. -/
namespace DL
open PySem PySem.Spec PyProof.Rows L2

theorem paired_get {α β : Type} {F : α → β → Prop} : ∀ {xs : List α} {ys : List β} {i : Nat} {y : β}, Paired F xs ys → ys[i]? = some y → ∃ x, xs[i]? = some x ∧ F x y
  | _, _, _, _, .nil, e => by simp at e
  | _, _, 0, _, .cons a _, e => by simp at e; subst e; exact ⟨_, rfl, a⟩
  | _, _, i + 1, _, .cons _ t, e => by
    obtain ⟨x, h1, h2⟩ := paired_get (i := i) t (by simpa using e)
    exact ⟨x, by simpa using h1, h2⟩
theorem paired_set {α β : Type} {F F' : α → β → Prop} : ∀ {xs : List α} {ys : List β} (i : Nat) {x : α} {y : β}, Paired F xs ys → xs[i]? = some x → (∀ (j : Nat) a b, j ≠ i → xs[j]? = some a → F a b → F' a b) → F' x y → Paired F' xs (ys.set i y)
  | _, _, _, _, _, .nil, e, _, _ => by simp at e
  | _, _, 0, _, _, .cons a t, e, h, hx => by
    simp at e
    subst e
    exact .cons hx (paired_rest t fun j a b => h (j + 1) a b (by omega))
  | _, _, i + 1, _, _, .cons a t, e, h, hx => .cons (h 0 _ _ (by omega) rfl a) (paired_set i t (by simpa using e) (fun j a b hj ha => h (j + 1) a b (by omega) (by simpa using ha)) hx)
where paired_rest {α β : Type} {F F' : α → β → Prop} : ∀ {xs : List α} {ys : List β}, Paired F xs ys → (∀ (j : Nat) a b, xs[j]? = some a → F a b → F' a b) → Paired F' xs ys
  | _, _, .nil, _ => .nil
  | _, _, .cons a t, h => .cons (h 0 _ _ rfl a) (paired_rest t fun j a b ha => h (j + 1) a b (by simpa using ha))
theorem paired_mem {α β : Type} {F F' : α → β → Prop} : ∀ {xs : List α} {ys : List β}, Paired F xs ys → (∀ a b, a ∈ xs → F a b → F' a b) → Paired F' xs ys
  | _, _, .nil, _ => .nil
  | _, _, .cons a t, h => .cons (h _ _ List.mem_cons_self a) (paired_mem t fun a b z => h a b (List.mem_cons_of_mem _ z))
section
variable {G : Gd} {ow : List Nat} {B H B' H' : Hp} {σ : L2.St} {γ : Env}
/-- an own empty list is an own list of own lists -/
theorem EnvR.up2 (I : EnvR G ow B H σ γ) {i : Nat} (hk : ow.getD i 0 = 1) (hg : ∀ d, γ[i]? = some (some d) → d = .list []) : EnvR G (ow.set i 2) B H σ γ := by
  obtain ⟨own, h1, h2, h3⟩ := I.v
  have hi : i < ow.length := by
    by_cases z : i < ow.length
    · exact z
    · rw [List.getD_eq_getElem?_getD, List.getElem?_eq_none (by omega)] at hk; simp at hk
  refine ⟨I.s, I.e, I.len, I.x, own, h1, h2, fun j d q => ?_⟩
  obtain ⟨v, e, r⟩ := h3 j d q
  refine ⟨v, e, ?_⟩
  by_cases z : j = i
  · subst z
    rw [ow_set_self _ _ _ (.inl hi)]
    rw [hk] at r
    have := hg d q
    subst this
    obtain ⟨p, xs, ds, c1, c2, c3, c4, c5⟩ := r
    cases c2
    cases c5
    exact ⟨p, [], [], c1, rfl, c3, c4, .nil, by simp, .nil⟩
  · rw [ow_set_ne _ _ z]
    exact r
/-- one of its lists is written -/
theorem EnvR.wr2 (I : EnvR G ow B H σ γ) {i : Nat} {ds : List D} (hx : G.x = none) (hk : ow.getD i 0 = 2) (hg : γ[i]? = some (some (.list ds))) :
    ∃ (p : Addr) (qs : List Addr) (dss : List (List D)), ds = dss.map PyData.list ∧ σ[i]? = some (some (.ref p)) ∧ H p = some (.lst (qs.map V.ref)) ∧ qs.length = dss.length ∧
      ∀ (j : Nat) es, dss[j]? = some es → ∃ q ys, qs[j]? = some q ∧ H q = some (.lst ys) ∧ DnAll G.K B ys es ∧
        ∀ ys' es', DnAll G.K B ys' es' → EnvR G ow B (upd H q (.lst ys')) σ (γ.set i (some (.list ((dss.set j es').map PyData.list)))) := by
  obtain ⟨own, h1, h2, h3⟩ := I.v
  obtain ⟨v, e, r⟩ := h3 i _ hg
  rw [hk] at r
  obtain ⟨p, qs, dss, rfl, q2, q3, q4, q5, q6, q7⟩ := r
  cases q2
  refine ⟨p, qs, dss, rfl, e, q4, paired_len q7, fun j es hj => ?_⟩
  obtain ⟨q, hq, oq, ys, hl, hd⟩ := paired_get q7 hj
  obtain ⟨b1, b2, b3⟩ := h1 i q oq
  refine ⟨q, ys, hq, hl, hd, fun ys' es' hy => ?_⟩
  have sB : Same B (upd H q (.lst ys')) := fun a u z => by
    have : a ≠ q := fun y => by subst y; rw [b1] at z; cases z
    rw [upd_ne this]; exact I.s a u z
  refine ⟨sB, ⟨I.e.b, fun a u z => ?_, sB, I.e.n⟩, by rw [List.length_set, I.len], (fun t z => by rw [hx] at z; cases z), own, fun k a hj => ?_, h2, fun k d q' => ?_⟩
  · have : a ≠ q := fun y => by subst y; rw [b2] at z; cases z
    rw [upd_ne this]; exact I.e.h a u z
  · obtain ⟨c1, c2, c3⟩ := h1 k a hj
    refine ⟨c1, c2, ?_⟩
    by_cases z : a = q
    · subst z; exact nt_lst upd_same
    · exact c3.upd z
  · by_cases z : k = i
    · subst z
      have hj' : k < γ.length := I.lt hg
      rw [List.getElem?_set_self hj'] at q'
      cases q'
      refine ⟨_, e, ?_⟩
      rw [hk]
      have hpq : p ≠ q := fun z => q6 (z ▸ List.mem_of_getElem? hq)
      refine ⟨p, qs, dss.set j es', rfl, rfl, q3, by rw [upd_ne hpq]; exact q4, q5, q6, paired_set j q7 hq (fun m a b hm ha ⟨z1, zs, z2, z3⟩ => ⟨z1, zs, ?_, z3⟩) ⟨oq, ys', upd_same, hy⟩⟩
      have : a ≠ q := fun y => by
        subst y
        exact hm (nd_ix q5 ha hq)
      rw [upd_ne this]; exact z2
    · rw [List.getElem?_set_ne (Ne.symm z)] at q'
      obtain ⟨w, e1, r⟩ := h3 k d q'
      exact ⟨w, e1, r.keepH fun a ha => upd_ne fun y => by subst y; exact z (h2 k i _ ha oq)⟩
/-- a new list joins its lists -/
theorem EnvR.app2 (I : EnvR G ow B H σ γ) {i : Nat} {ds : List D} (hx : G.x = none) (hk : ow.getD i 0 = 2) (hg : γ[i]? = some (some (.list ds))) {q : Addr} {xs : List V} {es : List D} (x : Ext B H B' H') (hq : H q = none) (hb : B' q = none) (hl : H' q = some (.lst xs)) (hd : DnAll G.K B' xs es) :
    ∃ p zs, σ[i]? = some (some (.ref p)) ∧ H' p = some (.lst zs) ∧ zs.length = ds.length ∧ EnvR G ow B' (upd H' p (.lst (zs ++ [.ref q]))) σ (γ.set i (some (.list (ds ++ [.list es])))) := by
  have I' := I.mono x
  obtain ⟨own, h1, h2, h3⟩ := I.v
  obtain ⟨v, e, r⟩ := h3 i _ hg
  rw [hk] at r
  obtain ⟨p, qs, dss, rfl, q2, q3, q4, q5, q6, q7⟩ := r
  cases q2
  obtain ⟨b1, b2, b3⟩ := h1 i p q3
  have hG : G.H q = none := by
    cases z : G.H q with
    | none => rfl
    | some o => rw [I.e.h q o z] at hq; cases hq
  have hpq : q ≠ p := fun z => by subst z; exact b3.ne hq
  have bp : B' p = none := x.n p b1 b3
  have sB : Same B' (upd H' p (.lst (qs.map V.ref ++ [.ref q]))) := fun a u z => by
    have : a ≠ p := fun y => by subst y; rw [bp] at z; cases z
    rw [upd_ne this]; exact x.s a u z
  have noq : ∀ j a, own j a → a ≠ q := fun j a ha y => by subst y; exact (h1 j a ha).2.2.ne hq
  have nq : ∀ a, H a ≠ none → H' a ≠ none := fun a z y => by
    cases w : H a with
    | none => exact z w
    | some o => rw [x.h a o w] at y; cases y
  refine ⟨p, qs.map V.ref, e, x.h _ _ q4, by rw [List.length_map, List.length_map]; exact paired_len q7, sB, ⟨I'.e.b, fun a u z => ?_, sB, I'.e.n⟩, by rw [List.length_set, I.len], (fun t z => by rw [hx] at z; cases z), fun j a => own j a ∨ (j = i ∧ a = q), fun k a hj => ?_, fun j k a hj hk' => ?_, fun k d q' => ?_⟩
  · have : a ≠ p := fun y => by subst y; rw [b2] at z; cases z
    rw [upd_ne this]; exact I'.e.h a u z
  · rcases hj with hj | ⟨_, rfl⟩
    · obtain ⟨c1, c2, c3⟩ := h1 k a hj
      refine ⟨x.n a c1 c3, c2, ?_⟩
      by_cases z : a = p
      · subst z; exact nt_lst upd_same
      · exact (c3.mono x.h).upd z
    · exact ⟨hb, hG, (nt_lst hl).upd hpq⟩
  · rcases hj with hj | ⟨z1, z2⟩
    · rcases hk' with hk' | ⟨y1, y2⟩
      · exact h2 j k a hj hk'
      · exact absurd y2 (noq j a hj)
    · rcases hk' with hk' | ⟨y1, y2⟩
      · exact absurd z2 (noq k a hk')
      · rw [z1, y1]
  · by_cases z : k = i
    · subst z
      have hj' : k < γ.length := I.lt hg
      rw [List.getElem?_set_self hj'] at q'
      cases q'
      refine ⟨_, e, ?_⟩
      rw [hk]
      have nqq : q ∉ qs := fun z => by
        obtain ⟨m, hm⟩ := List.getElem?_of_mem z
        obtain ⟨es', he'⟩ : ∃ es', dss[m]? = some es' := by
          have hml := (List.getElem?_eq_some_iff.mp hm).1
          rw [paired_len q7] at hml
          exact ⟨_, List.getElem?_eq_getElem hml⟩
        obtain ⟨q'', w1, w2, _⟩ := paired_get q7 he'
        rw [hm] at w1
        cases w1
        exact noq k q w2 rfl
      refine ⟨p, qs ++ [q], dss ++ [es], rfl, by simp, .inl q3, by rw [upd_same]; simp, ?_, ?_, paired_append (paired_mem q7 fun a b za ⟨z1, ys, z2, z3⟩ => ⟨.inl z1, ys, ?_, z3.mono x.b⟩) (.cons ⟨.inr ⟨rfl, rfl⟩, xs, by rw [upd_ne hpq]; exact hl, hd⟩ .nil)⟩
      · rw [List.nodup_append]
        refine ⟨q5, by simp, fun a ha b hb' e => ?_⟩
        rw [List.mem_singleton] at hb'
        subst hb'
        subst e
        exact nqq ha
      · rw [List.mem_append, List.mem_singleton]
        rintro (z | z)
        · exact q6 z
        · exact hpq z.symm
      · have : a ≠ p := fun y => by subst y; exact q6 za
        rw [upd_ne this]; exact x.h _ _ z2
    · rw [List.getElem?_set_ne (Ne.symm z)] at q'
      obtain ⟨w, e1, r⟩ := h3 k d q'
      refine ⟨w, e1, ((r.mono x).monoB (.refl _) fun a ha => .inl ha).keepH fun a ha => upd_ne fun y => ?_⟩
      subst y
      rcases ha with ha | ⟨y1, _⟩
      · exact z (h2 k i _ ha q3)
      · exact z y1
end

/-! ### rules -/
section
variable {X : Cx} {a b e : Expr} {pos : Pos} {G : Gd} {ow owL : List Nat} {f g fe : Env → Rs D}
def ixLD : D → D → Option D
  | .list ds, .int i => atI ds i
  | _, _ => none
/-- xs[i], xs an own list of own lists: looked at only -/
theorem d_ix2 (ha : PE X a (cV G ow 2 f)) (hb : PE X b (cV G ow 1 g)) (hs : PlainIx b := by intro _ _; rfl) (hK : X.K = G.K := by rfl) : PE X (.Subscript a b pos) (cV G ow 1 (b2 f g ixLD)) :=
  (pe_ix (hK ▸ ix_list) ha hb hs).impD fun σ H Q ⟨B, γ, I, q⟩ => ⟨B, γ, I, q.bind.imp fun d q v B1 H1 x1 hv => ⟨B1, γ, I.mono x1, q.bind.mono x1 fun e q u B2 H2 x2 hu => by
    obtain ⟨z, ez, q7⟩ := q.oR
    cases d with
    | list ds =>
      cases e with
      | int n =>
        obtain ⟨p, us, rfl, h1, h2⟩ := (hv.mono x2).items x2.s
        obtain ⟨w, e1, e2⟩ := atI_len h2 (show atI ds n = some z from ez)
        exact ⟨p, us, n, w, rfl, hu.int, .inl h1, e1, q7 w B2 H2 (x1.trans x2) e2⟩
      | _ => cases ez
    | _ => cases ez⟩⟩
def lenLD : List D → Option D
  | [.list ds] => some (.int (ds.length : Nat))
  | _ => none
theorem d_len2 {p : Pos} (hm : X.mg "len" = none) (ha : PE X e (cV G ow 2 f)) (hg : Gl X "len" := by rfl) (he : starEach [e] X.env = (false, eval e X.env) :: starEach [] X.env := by rfl) (hpl : (backTo pos (starEach [] X.env)).any (·.1) = false := by rfl) (hK : X.K = G.K := by rfl) :
    PE X (.Call (.Name "len" p) [e] [] pos) (cV G ow 0 (cB (aC f aN) lenLD)) :=
  (pe_callB call_len_seq hg hm PySem.boot_len (pa_cons ha pa_nil he) (by decide) (by decide) he hpl).impD fun σ H Q ⟨B, γ, I, q⟩ => ⟨B, γ, I, q.bind.bind.imp fun d q v B1 H1 x1 hv => by
    obtain ⟨z, ez, q⟩ := RsP.oR (show RsP G σ B H (oR (lenLD [d])) _ from q)
    unfold lenLD at ez
    split at ez
    · rename_i ds es hh
      cases hh
      cases ez
      obtain ⟨p, us, rfl, h1, h2⟩ := hv.items x1.s
      exact ⟨p, us, rfl, .inl (.inl h1), by rw [paired_len h2]; exact q _ B1 H1 x1 (Dn.int _)⟩
    · cases ez⟩
theorem cS_post {st : Stmt} {ow1 ow2 : List Nat} {F : Env → Out} (h : PS X st (cS G ow ow1 owL F)) (hi : ∀ γ γ', F γ = .nx γ' → ∀ B H σ, EnvR G ow1 B H σ γ' → EnvR G ow2 B H σ γ') : PS X st (cS G ow ow2 owL F) :=
  h.impD fun J σ H ⟨B, γ, I, q⟩ => ⟨B, γ, I, by
    cases hF : F γ with
    | nx γ' =>
      rw [hF] at q
      exact fun B' σ' H' s I' => q B' σ' H' s (hi γ γ' hF _ _ _ I')
    | rt d => rw [hF] at q; exact q
    | bk γ' => rw [hF] at q; exact q
    | ct γ' => rw [hF] at q; exact q
    | er c fs γ' => rw [hF] at q; exact q
    | no => rw [hF] at q; exact q⟩
/-- x = [], x an own list of own lists -/
theorem s_new2 {ow' : List Nat} {x : Str} {p' pl : Pos} (i : Nat) (hN : X.N.Nodup) (hw : ow.set i 2 = ow' := by rfl) (hlt : i < ow.length := by decide) (hi : X.N[i]? = some x := by rfl) (hx : Loc X.env.scope x := by first | exact .inl rfl | exact .inr rfl) (hg : G.x = none := by rfl)
    (hs : swapsWith (.List [] pl) (some (.Name x p')) pos.line X.env = pure false := by rfl) (hf : X.fn x = true ∨ X.env.scope.names.lookup x = some .local := by first | exact .inl rfl | exact .inr rfl | assumption) :
    PS X (.Assign [.Name x p'] (.List [] pl) pos) (cS G ow ow' owL (sNew i (nL aN))) :=
  cS_post (s_new (ow' := ow.set i 1) i (n_lst a_nil) hN rfl hlt hi hx hg hs hf) fun γ γ' h B H σ I => by
    have e : γ' = γ.set i (some (.list [])) := by
      have : Out.nx (γ.set i (some (.list []))) = Out.nx γ' := h
      exact (Out.nx.inj this).symm
    have := I.up2 (i := i) (ow_set_self _ _ _ (.inl hlt)) fun d hd => by
      rw [e] at hd
      by_cases z : i < γ.length
      · rw [List.getElem?_set_self z] at hd
        cases hd
        rfl
      · rw [List.getElem?_eq_none (by rw [List.length_set]; omega)] at hd
        cases hd
    rw [List.set_set, hw] at this
    exact this
/-- x.append(a new list), x an own list of own lists -/
theorem s_append2 {x : Str} {p1 p2 p3 : Pos} {fn : Env → Rs (List D)} (i : Nat) (he : PE X e (cN G ow fn)) (hk : ow.getD i 0 = 2 := by rfl) (hi : X.N[i]? = some x := by rfl) (hv : Vis X.env.scope x := by first | exact Or.inl rfl | exact Or.inr (Or.inl rfl) | exact Or.inr (Or.inr rfl)) (hg : G.x = none := by rfl)
    (hd : (x == ("__debug__" : Str)) = false := by decide) (hcd : (x == ("__classdict__" : Str)) = false := by decide)
    (hbase : attributeBase (.Name x p1) "append" X.env (eval (.Name x p1) X.env) = eval (.Name x p1) X.env := by rfl) (hst : starEach [e] X.env = (false, eval e X.env) :: starEach [] X.env := by rfl)
    (h1 : PE X (.Name x p1) (tVar i) → PA X [e] (tCons (cN G ow fn) tNil) → PE X (.Call (.Attribute (.Name x p1) "append" p2) [e] [] p3) (tBM X.K "list" rAppend (tVar i) (tCons (cN G ow fn) tNil)) := by
      exact fun h1 h2 => pe_bm PySem.F.plainAttrs_list PySem.F.slot_list_append PySem.F.type_list_append mt_append h1 h2)
    (hs : swapsWith (.Call (.Attribute (.Name x p1) "append" p2) [e] [] p3) none pos.line X.env = pure false := by rfl) :
    PS X (.Expr (.Call (.Attribute (.Name x p1) "append" p2) [e] [] p3) pos) (cS G ow ow owL (appS i (eL fn))) :=
  (ps_expr (h1 (pe_var hi hv hd hcd) (pa_cons he pa_nil hst)) hs).impD fun J σ H ⟨B, γ, I, q⟩ => by
    obtain ⟨ds, hgi, q⟩ := (OutP.lift I q).bind.lsE
    obtain ⟨p, qs, dss, e0, e1, e2, _⟩ := I.wr2 hg hk hgi
    refine ⟨.ref p, e1, .inl ⟨rfl, _, .inl (.inl e2)⟩, B, γ, I, q.bind.map.imp fun es q pn xs B1 H1 x1 hq hb hl hd => ?_⟩
    obtain ⟨z, ez, q⟩ := q.oR
    obtain ⟨p', zs, e1', e2', e3', wr⟩ := I.app2 hg hk hgi x1 hq hb hl hd
    rw [e1] at e1'
    cases e1'
    split at ez
    · rename_i hlt
      cases ez
      exact ⟨p, zs, .ref pn, rfl, rfl, e2', by rw [e3']; exact lim_lt hlt, q B1 σ _ x1.b wr⟩
    · cases ez
/-- where a list stands in a list -/
def ixJ (ds : List D) : D → Option (Nat × List D)
  | .int n => (ixN ds.length n).bind fun j => match ds[j]? with
    | some (.list es) => some (j, es)
    | _ => none
  | _ => none
theorem ixJ_some {ds : List D} {k : D} {j : Nat} {es : List D} (h : ixJ ds k = some (j, es)) : ∃ n, k = .int n ∧ ixN ds.length n = some j ∧ ds[j]? = some (.list es) := by
  unfold ixJ at h
  split at h
  · rename_i n
    cases hj : ixN ds.length n with
    | none => rw [hj] at h; cases h
    | some m =>
      rw [hj] at h
      change (match ds[m]? with | some (.list es) => some (m, es) | _ => none) = some (j, es) at h
      split at h
      · rename_i es' hm
        cases h
        exact ⟨n, rfl, hj, hm⟩
      · cases h
  · cases h
theorem map_list_get {dss : List (List D)} {j : Nat} {es : List D} (h : (dss.map PyData.list)[j]? = some (.list es)) : dss[j]? = some es := by
  rw [List.getElem?_map, Option.map_eq_some_iff] at h
  obtain ⟨z, e1, e2⟩ := h
  cases e2
  exact e1
/-- x[k].append(e) -/
def appInS (i : Nat) (fi fe : Env → Rs D) : Env → Out := fun γ => liftS ((lsE γ i).bind fun ds => (fi γ).bind fun k => (oR (ixJ ds k)).bind fun t => (fe γ).bind fun d => oR (if t.2.length < LIM then some (ds.set t.1 (.list (t.2 ++ [d]))) else none)) γ fun es => .nx (γ.set i (some (.list es)))
theorem s_app_in {x : Str} {ix : Expr} {p1 p2 p3 p4 : Pos} {fi : Env → Rs D} (i : Nat) (hix : PE X ix (cV G ow 1 fi)) (he : PE X e (cV G ow 0 fe)) (hk : ow.getD i 0 = 2 := by rfl) (hi : X.N[i]? = some x := by rfl) (hv : Vis X.env.scope x := by first | exact Or.inl rfl | exact Or.inr (Or.inl rfl) | exact Or.inr (Or.inr rfl)) (hg : G.x = none := by rfl)
    (hd : (x == ("__debug__" : Str)) = false := by decide) (hcd : (x == ("__classdict__" : Str)) = false := by decide) (hpl : PlainIx ix := by intro _ _; rfl)
    (hbase : attributeBase (.Subscript (.Name x p1) ix p4) "append" X.env (eval (.Subscript (.Name x p1) ix p4) X.env) = eval (.Subscript (.Name x p1) ix p4) X.env := by rfl) (hst : starEach [e] X.env = (false, eval e X.env) :: starEach [] X.env := by rfl)
    (h1 : PE X (.Subscript (.Name x p1) ix p4) (tOp (rIxL X.K) (tVar i) (cV G ow 1 fi)) → PA X [e] (tCons (cV G ow 0 fe) tNil) → PE X (.Call (.Attribute (.Subscript (.Name x p1) ix p4) "append" p2) [e] [] p3) (tBM X.K "list" rAppend (tOp (rIxL X.K) (tVar i) (cV G ow 1 fi)) (tCons (cV G ow 0 fe) tNil)) := by
      exact fun h1 h2 => pe_bm PySem.F.plainAttrs_list PySem.F.slot_list_append PySem.F.type_list_append mt_append h1 h2)
    (hs : swapsWith (.Call (.Attribute (.Subscript (.Name x p1) ix p4) "append" p2) [e] [] p3) none pos.line X.env = pure false := by rfl) :
    PS X (.Expr (.Call (.Attribute (.Subscript (.Name x p1) ix p4) "append" p2) [e] [] p3) pos) (cS G ow ow owL (appInS i fi fe)) :=
  (ps_expr (h1 (pe_ix ix_list (pe_var hi hv hd hcd) hix hpl) (pa_cons he pa_nil hst)) hs).impD fun J σ H ⟨B, γ, I, q⟩ => by
    obtain ⟨ds, hgi, q⟩ := (OutP.lift I q).bind.lsE
    obtain ⟨p, qs, dss, e0, e1, e2, _⟩ := I.wr2 hg hk hgi
    refine ⟨.ref p, e1, B, γ, I, q.bind.imp fun k q u B1 H1 x1 hu => ?_⟩
    obtain ⟨⟨j, es⟩, ej, q5⟩ := q.bind.oR
    obtain ⟨n, rfl, hj, hds⟩ := ixJ_some ej
    obtain ⟨p', qs', dss', e0', e1', e2', e3', wr⟩ := (I.mono x1).wr2 hg hk hgi
    rw [e1] at e1'
    cases e1'
    subst e0'
    rw [List.length_map] at hj
    obtain ⟨qa, ys, w1, w2, w3, _⟩ := wr j es (map_list_get hds)
    have hat : atI (qs'.map V.ref) n = some (.ref qa) := by
      unfold atI
      rw [List.length_map, e3', hj]
      simp [w1]
    refine ⟨p, _, n, .ref qa, rfl, hu.int, .inl (.inl e2'), hat, .inl ⟨rfl, ys, .inl (.inl w2)⟩, B1, γ, I.mono x1, q5.bind.mono x1 fun d q v B2 H2 x2 hv => ?_⟩
    obtain ⟨z, ez, q⟩ := q.oR
    obtain ⟨p'', qs'', dss'', f0, f1, f2, f3, wr2⟩ := (I.mono (x1.trans x2)).wr2 hg hk hgi
    rw [e1] at f1
    cases f1
    have hdd : dss'' = dss' := List.map_inj_right (f := PyData.list) (fun _ _ h => PyData.list.inj h) |>.mp f0.symm
    subst hdd
    have hqq : qs'' = qs' := by
      have := x2.h _ _ e2'
      rw [f2] at this
      have h9 : qs''.map V.ref = qs'.map V.ref := by
        injection this with h
        injection h
      exact List.map_inj_right (f := V.ref) (fun _ _ h => V.ref.inj h) |>.mp h9
    subst hqq
    obtain ⟨qb, ys', v1, v2, v3, v4⟩ := wr2 j es (map_list_get hds)
    rw [w1] at v1
    cases v1
    split at ez
    · rename_i hlt
      cases ez
      refine ⟨qa, ys', v, rfl, rfl, v2, by rw [v3.length]; exact lim_lt hlt, q B2 σ _ (x1.trans x2).b ?_⟩
      have := v4 (ys' ++ [v]) (es ++ [d]) (v3.append (.cons hv .nil))
      rw [List.map_set] at this
      exact this
    · cases ez
/-- x[k][l] = e -/
def putInS (i : Nat) (fe fi fj : Env → Rs D) : Env → Out := fun γ => liftS ((fe γ).bind fun d => (lsE γ i).bind fun ds => (fi γ).bind fun k => (oR (ixJ ds k)).bind fun t => (fj γ).bind fun l => oR ((putL t.2 d l).map fun es => ds.set t.1 (.list es))) γ fun es => .nx (γ.set i (some (.list es)))
theorem s_put2 {x : Str} {ix jx : Expr} {p1 p2 p4 : Pos} {fi fj : Env → Rs D} (i : Nat) (he : PE X e (cV G ow 0 fe)) (hix : PE X ix (cV G ow 1 fi)) (hjx : PE X jx (cV G ow 1 fj)) (hk : ow.getD i 0 = 2 := by rfl) (hi : X.N[i]? = some x := by rfl) (hv : Vis X.env.scope x := by first | exact Or.inl rfl | exact Or.inr (Or.inl rfl) | exact Or.inr (Or.inr rfl)) (hg : G.x = none := by rfl)
    (hd : (x == ("__debug__" : Str)) = false := by decide) (hcd : (x == ("__classdict__" : Str)) = false := by decide) (hpl : PlainIx ix := by intro _ _; rfl)
    (h1 : PE X e (cV G ow 0 fe) → PG X (.Subscript (.Subscript (.Name x p1) ix p4) jx p2) (gSub (tOp (rIxL X.K) (tVar i) (cV G ow 1 fi)) (cV G ow 1 fj) rSetL) → PS X (.Assign [.Subscript (.Subscript (.Name x p1) ix p4) jx p2] e pos) (tAsg (cV G ow 0 fe) (gSub (tOp (rIxL X.K) (tVar i) (cV G ow 1 fi)) (cV G ow 1 fj) rSetL)) := by exact fun h1 h2 => ps_asg h1 h2)
    (h2 : PE X (.Subscript (.Name x p1) ix p4) (tOp (rIxL X.K) (tVar i) (cV G ow 1 fi)) → PE X jx (cV G ow 1 fj) → PG X (.Subscript (.Subscript (.Name x p1) ix p4) jx p2) (gSub (tOp (rIxL X.K) (tVar i) (cV G ow 1 fi)) (cV G ow 1 fj) rSetL) := by exact fun h1 h2 => pg_sub h1 h2 set_list) :
    PS X (.Assign [.Subscript (.Subscript (.Name x p1) ix p4) jx p2] e pos) (cS G ow ow owL (putInS i fe fi fj)) :=
  (h1 he (h2 (pe_ix ix_list (pe_var hi hv hd hcd) hix hpl) hjx)).impD fun J σ H ⟨B, γ, I, q⟩ => ⟨B, γ, I, (OutP.lift I q).bind.imp fun d q v B1 H1 x1 hv => by
    obtain ⟨ds, hgi, q⟩ := q.bind.lsE
    obtain ⟨p, qs, dss, e0, e1, e2, _⟩ := (I.mono x1).wr2 hg hk hgi
    refine ⟨.ref p, e1, B1, γ, I.mono x1, q.bind.mono x1 fun k q u B2 H2 x2 hu => ?_⟩
    obtain ⟨⟨j, es⟩, ej, q5⟩ := q.bind.oR
    obtain ⟨n, rfl, hj, hds⟩ := ixJ_some ej
    obtain ⟨p', qs', dss', e0', e1', e2', e3', wr⟩ := (I.mono (x1.trans x2)).wr2 hg hk hgi
    rw [e1] at e1'
    cases e1'
    subst e0'
    rw [List.length_map] at hj
    obtain ⟨qa, ys, w1, w2, w3, _⟩ := wr j es (map_list_get hds)
    have hat : atI (qs'.map V.ref) n = some (.ref qa) := by
      unfold atI
      rw [List.length_map, e3', hj]
      simp [w1]
    refine ⟨p, _, n, .ref qa, rfl, hu.int, .inl (.inl e2'), hat, B2, γ, I.mono (x1.trans x2), q5.bind.mono (x1.trans x2) fun l q w B3 H3 x3 hw => ?_⟩
    obtain ⟨z, ez, q⟩ := q.oR
    obtain ⟨p'', qs'', dss'', f0, f1, f2, f3, wr2⟩ := (I.mono ((x1.trans x2).trans x3)).wr2 hg hk hgi
    rw [e1] at f1
    cases f1
    have hdd : dss'' = dss' := List.map_inj_right (f := PyData.list) (fun _ _ h => PyData.list.inj h) |>.mp f0.symm
    subst hdd
    have hqq : qs'' = qs' := by
      have := x3.h _ _ e2'
      rw [f2] at this
      have h9 : qs''.map V.ref = qs'.map V.ref := by
        injection this with h
        injection h
      exact List.map_inj_right (f := V.ref) (fun _ _ h => V.ref.inj h) |>.mp h9
    subst hqq
    obtain ⟨qb, ys', v1, v2, v3, v4⟩ := wr2 j es (map_list_get hds)
    rw [w1] at v1
    cases v1
    obtain ⟨es', ep, ez2⟩ := Option.map_eq_some_iff.mp ez
    subst ez2
    unfold putL at ep
    split at ep
    · rename_i m
      cases hm : ixN es.length m with
      | none => rw [hm] at ep; cases ep
      | some t =>
        rw [hm] at ep
        cases ep
        refine ⟨qa, ys', m, t, rfl, hw.int, v2, by rw [v3.length]; exact hm, q B3 σ _ ((x1.trans x2).trans x3).b ?_⟩
        have := v4 (ys'.set t v) (es.set t d) (v3.set (Dn.mono (x2.trans x3).b hv) t)
        rw [List.map_set] at this
        exact this
    · cases ep⟩
end
end DL
set_option Elab.async false
set_option linter.all false
set_option maxRecDepth 100000
set_option maxHeartbeats 4000000
/-! The data layer: comprehensions that make own lists of own lists; dict comprehensions. -/
namespace DL
open PySem PySem.Spec PyProof.Rows L2
section
variable {G : Gd} {ow : List Nat} {B H B' H' : Hp} {σ : L2.St} {γ : Env}
theorem EnvR.setN2 (I : EnvR G ow B H σ γ) (i : Nat) (hx : G.x = none) (hi : i < ow.length) {p : Addr} {qs : List Addr} {dss : List (List D)} (x : Ext B H B' H') (hp : H p = none) (hb : B' p = none) (hl : H' p = some (.lst (qs.map V.ref))) (hnd : qs.Nodup) (hpq : p ∉ qs)
    (h : Paired (fun q (ds : List D) => H q = none ∧ B' q = none ∧ ∃ ys, H' q = some (.lst ys) ∧ DnAll G.K B' ys ds) qs dss) : EnvR G (ow.set i 2) B' H' (σ.set i (some (.ref p))) (γ.set i (some (.list (dss.map PyData.list)))) := by
  have I' := I.mono x
  obtain ⟨own0, g1, g2, g3⟩ := I.v
  have hG : ∀ q, H q = none → G.H q = none := fun q hq => by
    cases z : G.H q with
    | none => rfl
    | some o => rw [I.e.h q o z] at hq; cases hq
  have hqs : ∀ q ∈ qs, H q = none ∧ B' q = none ∧ NT H' q := fun q hq => by
    obtain ⟨m, hm⟩ := List.getElem?_of_mem hq
    have hml := (List.getElem?_eq_some_iff.mp hm).1
    rw [paired_len h] at hml
    obtain ⟨q', w1, w2, w3, ys, w4, _⟩ := paired_get h (List.getElem?_eq_getElem hml)
    rw [hm] at w1
    cases w1
    exact ⟨w2, w3, nt_lst w4⟩
  refine ⟨I'.s, I'.e, by rw [List.length_set, List.length_set, I'.len], (fun t z => by rw [hx] at z; cases z), fun j a => if j = i then (a = p ∨ a ∈ qs) else own0 j a, fun j a hj => ?_, fun j k a hj hk => ?_, fun j e q => ?_⟩
  · dsimp only at hj
    split at hj
    · rcases hj with rfl | hj
      · exact ⟨hb, hG _ hp, nt_lst hl⟩
      · obtain ⟨c1, c2, c3⟩ := hqs a hj
        exact ⟨c2, hG _ c1, c3⟩
    · obtain ⟨c1, c2, c3⟩ := g1 j a hj
      exact ⟨x.n a c1 c3, c2, c3.mono x.h⟩
  · have new : ∀ a, (a = p ∨ a ∈ qs) → H a = none := fun a z => by
      rcases z with rfl | z
      · exact hp
      · exact (hqs a z).1
    dsimp only at hj hk
    split at hj
    · rename_i e1
      split at hk
      · rename_i e2; rw [e1, e2]
      · exact absurd (new a hj) (g1 k a hk).2.2.ne
    · split at hk
      · exact absurd (new a hk) (g1 j a hj).2.2.ne
      · exact g2 j k a hj hk
  · by_cases z : j = i
    · subst z
      have hj : j < γ.length := by
        by_cases y : j < γ.length
        · exact y
        · rw [List.getElem?_eq_none (by rw [List.length_set]; omega)] at q; cases q
      rw [List.getElem?_set_self hj] at q
      cases q
      refine ⟨.ref p, List.getElem?_set_self (by rw [← I.len]; exact hj), ?_⟩
      rw [ow_set_self _ _ _ (.inl hi)]
      refine ⟨p, qs, dss, rfl, rfl, by dsimp only; rw [if_pos rfl]; exact .inl rfl, hl, hnd, hpq, paired_mem h fun a b ha ⟨_, _, ys, c1, c2⟩ => ⟨by dsimp only; rw [if_pos rfl]; exact .inr ha, ys, c1, c2⟩⟩
    · rw [List.getElem?_set_ne (Ne.symm z)] at q
      obtain ⟨w, e1, r⟩ := g3 j e q
      refine ⟨w, by rw [List.getElem?_set_ne (Ne.symm z)]; exact e1, ?_⟩
      rw [ow_set_ne _ _ z]
      refine (r.mono x).monoB (.refl _) fun a ha => ?_
      dsimp only
      rw [if_neg z]
      exact ha
end
section
variable {X : Cx} {elt tg iter : Expr} {ifs : List Expr} {pos : Pos} {G : Gd} {ow owL : List Nat}
theorem lc_imp2 {vs : List Nat} {t : D → Env → Option Env} {c : Env → Rs Bool} {fe : Env → Rs (List D)} {fi : Env → Rs (List D)} (hg : G.x = none) {σ : L2.St} {H : Hp} {Q : VK}
    (h : ∃ B γ, EnvR G ow B H σ γ ∧ RsP G σ B H ((fi γ).bind fun ds => compR vs t c (eL fe) ds γ) fun zs => ∀ (p : Addr) (qs : List Addr) (dss : List (List D)) (B' H' : Hp), zs = dss.map PyData.list → Ext B H B' H' → H p = none → B' p = none → H' p = some (.lst (qs.map V.ref)) → qs.Nodup → p ∉ qs →
      Paired (fun q (ds : List D) => H q = none ∧ B' q = none ∧ ∃ ys, H' q = some (.lst ys) ∧ DnAll G.K B' ys ds) qs dss → Q (.ref p) H') :
    tLc (cI G ow fi) (cG G.mute ow vs t) (cT G.mute ow c) (cN G.mute ow fe) vs σ H Q := by
  obtain ⟨B, γ, I, q⟩ := h
  refine ⟨B, γ, I, q.bind.imp fun ds q J B1 H1 x1 jw => fun Da hDa => ?_⟩
  unfold compR at q
  cases hr : compL t c (eL fe) ds (wipeE γ vs) with
  | er _ _ => exact absurd hr compL_er
  | no => rw [hr] at q; exact q.elim
  | ok zs =>
    rw [hr] at q
    obtain ⟨zs', ez, q9⟩ := RsP.oR (show RsP G σ B H (oR (szL zs)) _ from q)
    obtain ⟨hl, e9⟩ := szL_some ez
    subst e9
    refine ⟨fun i m H' => i ≤ ds.length ∧ m = ds.length - i ∧ ∃ (B' : Hp) (dn : List (List D)) (rs : List D) (qs : List Addr), Ext B1 H1 B' H' ∧ B' Da = none ∧ H' Da = some (.lst (qs.map V.ref)) ∧ qs.Nodup ∧ Da ∉ qs ∧ Paired (fun q (ds : List D) => H1 q = none ∧ B' q = none ∧ ∃ ys, H' q = some (.lst ys) ∧ DnAll G.K B' ys ds) qs dn ∧ compL t c (eL fe) (ds.drop i) (wipeE γ vs) = .ok rs ∧ dn.map PyData.list ++ rs = zs',
      ⟨ds.length, Nat.zero_le _, by omega, B1, [], zs', [], .hid x1.s hDa, same_none x1.s hDa, upd_same, .nil, by simp, .nil, hr, rfl⟩, fun i m H' hW => ?_⟩
    obtain ⟨hi, rfl, B', dn, rs, qs, xx, hb, hl', hnd, hDq, hd, hc, he⟩ := hW
    obtain ⟨j1, j2⟩ := jw B' H' xx.b xx.s i
    by_cases hlt : i < ds.length
    · obtain ⟨jg, jy⟩ := j1 _ (List.getElem?_eq_getElem hlt)
      refine .inr ⟨jg, fun H2 => ∃ (B2 : Hp) (dn : List (List D)) (rs : List D) (qs : List Addr), Ext B1 H1 B2 H2 ∧ B2 Da = none ∧ H2 Da = some (.lst (qs.map V.ref)) ∧ qs.Nodup ∧ Da ∉ qs ∧ Paired (fun q (ds : List D) => H1 q = none ∧ B2 q = none ∧ ∃ ys, H2 q = some (.lst ys) ∧ DnAll G.K B2 ys ds) qs dn ∧ compL t c (eL fe) (ds.drop (i + 1)) (wipeE γ vs) = .ok rs ∧ dn.map PyData.list ++ rs = zs', fun H2 hN => ⟨ds.length - (i + 1), by omega, by omega, rfl, hN⟩, fun x H2 hy => ?_⟩
      obtain ⟨B2, x2, hx⟩ := jy x H2 hy
      rw [List.drop_eq_getElem_cons hlt] at hc
      obtain ⟨γ1, ht, b, hcb, hrest⟩ := compL_cons hc
      have keepD : ∀ {B3 H3 : Hp}, Ext B' H' B3 H3 → B3 Da = none ∧ H3 Da = some (.lst (qs.map V.ref)) := fun y => ⟨y.n Da hb ⟨_, hl', fun _ z => nomatch z⟩, y.h _ _ hl'⟩
      have keepP : ∀ {B3 H3 : Hp}, Ext B' H' B3 H3 → Paired (fun q (ds : List D) => H1 q = none ∧ B3 q = none ∧ ∃ ys, H3 q = some (.lst ys) ∧ DnAll G.K B3 ys ds) qs dn := fun y => Paired.mapP hd fun q ds ⟨c1, c2, ys, c3, c4⟩ => ⟨c1, y.n q c2 (nt_lst c3), ys, y.h _ _ c3, c4.mono y.b⟩
      refine ⟨B2, wipeE γ vs, ds[i], γ1, ((I.mono (x1.trans (xx.trans x2))).mute).wipe hg vs, hx, ht, fun σ3 hw3 I3 => ⟨hw3.trans (wipe_wipe _ _), B2, γ1, I3, ?_⟩⟩
      rw [hcb]
      intro B3 H3 x3
      rcases hrest with ⟨rfl, y, ys, hy1, hy2, rfl⟩ | ⟨rfl, hy2⟩
      · rw [if_pos rfl]
        refine ⟨B3, γ1, I3.mono x3, ?_⟩
        cases hfe : fe γ1 with
        | er _ _ =>
          have : (fe γ1).map PyData.list = .ok y := hy1
          rw [hfe] at this
          cases this
        | no =>
          have : (fe γ1).map PyData.list = .ok y := hy1
          rw [hfe] at this
          cases this
        | ok es =>
          have hye : (fe γ1).map PyData.list = .ok y := hy1
          rw [hfe] at hye
          cases hye
          intro qn xs B4 H4 x4 hqn hbn hln hdn
          have y4 := (x2.trans x3).trans x4
          obtain ⟨k1, k2⟩ := keepD y4
          obtain ⟨k3, k4⟩ := keepD (x2.trans x3)
          have hP := keepP y4
          have hP3 := keepP (x2.trans x3)
          have hnD : qn ≠ Da := fun z => by subst z; rw [k4] at hqn; cases hqn
          have hnq : qn ∉ qs := fun z => by
            obtain ⟨m, hm⟩ := List.getElem?_of_mem z
            have hml := (List.getElem?_eq_some_iff.mp hm).1
            rw [paired_len hP3] at hml
            obtain ⟨q', w1, w2, w3, ys', w4, _⟩ := paired_get hP3 (List.getElem?_eq_getElem hml)
            rw [hm] at w1
            cases w1
            rw [w4] at hqn
            cases hqn
          have hn1 : H1 qn = none := by
            cases z : H1 qn with
            | none => rfl
            | some o => rw [(xx.trans (x2.trans x3)).h qn o z] at hqn; cases hqn
          refine ⟨qs.map V.ref, k2, ?_, B4, dn ++ [es], ys, qs ++ [qn], (xx.trans y4).wrh hDa k1, k1, by rw [upd_same]; simp, ?_, ?_, paired_append (paired_mem hP fun q ds hq ⟨c1, c2, ys, c3, c4⟩ => ⟨c1, c2, ys, ?_, c4⟩) (.cons ⟨hn1, hbn, xs, by rw [upd_ne hnD]; exact hln, hdn⟩ .nil), hy2, ?_⟩
          · rw [List.length_map, paired_len hd]
            refine lim_lt ?_
            have : zs'.length = dn.length + (ys.length + 1) := by rw [← he, List.length_append, List.length_cons, List.length_map]
            omega
          · rw [List.nodup_append]
            refine ⟨hnd, by simp, fun a ha b hb' e => ?_⟩
            rw [List.mem_singleton] at hb'
            subst hb'
            subst e
            exact hnq ha
          · rw [List.mem_append, List.mem_singleton]
            rintro (z | z)
            · exact hDq z
            · exact hnD z.symm
          · have : q ≠ Da := fun z => by subst z; exact hDq hq
            rw [upd_ne this]; exact c3
          · rw [List.map_append, List.append_assoc]; exact he
      · rw [if_neg (by decide)]
        obtain ⟨k1, k2⟩ := keepD (x2.trans x3)
        exact ⟨B3, dn, rs, qs, xx.trans (x2.trans x3), k1, k2, hnd, hDq, keepP (x2.trans x3), hy2, he⟩
    · refine .inl ⟨j2 (by omega), ?_⟩
      rw [List.drop_eq_nil_of_le (by omega)] at hc
      cases hc
      rw [List.append_nil] at he
      have hHfree : ∀ q, H1 q = none → H q = none := fun q hq => x1.h.free hq
      exact q9 Da qs dn B' H' he.symm (x1.trans xx) (x1.h.free hDa) hb hl' hnd hDq (Paired.mapP hd fun q ds ⟨c1, c2, r⟩ => ⟨hHfree q c1, c2, r⟩)
variable {scope : Scope} {own : List (Str × Nat)} {t : D → Env → Option Env} {c : Env → Rs Bool} {fe : Env → Rs (List D)} {fi : Env → Rs (List D)}
/-- x = [a new list for ..], x an own list of own lists -/
theorem s_newLc2 {ow' : List Nat} {y : Str} {py spos : Pos} (i : Nat) (own : List (Str × Nat)) (hN : X.N.Nodup) (hi : PI X tg iter (cI G ow fi)) (ok : BlkOk X.N X.env.scope scope own)
    (hg : ∀ (s : Shared) (H : Hp) (C : Addr) (cl : List (Str × Addr)) (fp : List Addr), PG (X.blk s H scope (compEnvC scope cl C X.env) fp) tg (cG G.mute ow (own.map (·.2)) t)) (ht : ∀ (s : Shared) (H : Hp) (C : Addr) (cl : List (Str × Addr)) (fp : List Addr), PTs (X.blk s H scope (compEnvC scope cl C X.env) fp) ifs (cT G.mute ow c))
    (he : ∀ (s : Shared) (H : Hp) (C : Addr) (cl : List (Str × Addr)) (fp : List Addr), PE (X.blk s H scope (compEnvC scope cl C X.env) fp) elt (cN G.mute ow fe)) (hsw : swapsWith (.ListComp elt [⟨tg, iter, ifs, 0⟩] scope pos) (some (.Name y py)) spos.line X.env = pure true)
    (hw : ow.set i 2 = ow' := by rfl) (hlt : i < ow.length := by decide) (hy : X.N[i]? = some y := by rfl) (hyl : X.env.scope.names.lookup y = some .local := by rfl) (hc : X.calm = true := by rfl) (hx : G.x = none := by rfl) (hs : ∀ x, foldedSetIterable iter X.env x = pure x := by intro _; rfl) :
    PS X (.Assign [.Name y py] (.ListComp elt [⟨tg, iter, ifs, 0⟩] scope pos) spos) (cS G ow ow' owL fun γ => liftS ((fi γ).bind fun ds => compR (own.map (·.2)) t c (eL fe) ds γ) γ fun ds => .nx (γ.set i (some (.list ds)))) :=
  (ps_setLc hc hN hy hyl hsw hi ok hg ht he hs).impD fun J σ H ⟨B, γ, I, q⟩ => lc_imp2 hx ⟨B, γ, I, (q.lift I).imp fun ds q p qs dss B1 H1 ed x1 hp hb hl hnd hpq hd => by
    subst ed
    refine q B1 _ H1 x1.b ?_
    rw [← hw]
    exact I.setN2 i hx hlt x1 hp hb hl hnd hpq hd⟩
end
end DL
set_option Elab.async false
set_option linter.all false
set_option maxRecDepth 100000
set_option maxHeartbeats 4000000
/-! The data layer: dict comprehensions with ints or texts as keys. -/
namespace DL
open PySem PySem.Spec PyProof.Rows L2

def keyO : D → Option Key
  | .int i => some (.inl i)
  | .str x => some (.inr x)
  | _ => none
def putKD (es : List (Key × D)) (k : Key) (d : D) : List (Key × D) :=
  if (es.any fun kv => decide (kv.1 = k)) = true then es.map (fun kv => if kv.1 = k then (kv.1, d) else kv) else es ++ [(k, d)]
abbrev KvR (K : PySem.W.Frag) (B : Hp) : List (Key × V) → List (Key × D) → Prop := Paired fun (p : Key × V) (q : Key × D) => p.1 = q.1 ∧ Dn K B p.2 q.2
def dicD (es : List (Key × D)) : D := .dict (es.map fun q => (kD q.1, q.2))
section
variable {K : PySem.W.Frag} {B B' H : Hp}
theorem KvR.dn : ∀ {kvs : List (Key × V)} {es : List (Key × D)}, KvR K B kvs es → DnKv K B kvs (es.map fun q => (kD q.1, q.2))
  | _, _, .nil => .nil
  | (k, v) :: _, (k', d) :: _, .cons a t => by
    obtain ⟨rfl, a2⟩ := (show k = k' ∧ Dn K B v d from a)
    exact .cons a2 (KvR.dn t)
theorem KvR.mono (s : Same B B') {kvs : List (Key × V)} {es : List (Key × D)} (h : KvR K B kvs es) : KvR K B' kvs es := Paired.mapP h fun _ _ ⟨a, b⟩ => ⟨a, b.mono s⟩
theorem KvR.any {kvs : List (Key × V)} {es : List (Key × D)} (k : Key) (h : KvR K B kvs es) : (kvs.any fun kv => decide (kv.1 = k)) = es.any fun kv => decide (kv.1 = k) := by
  induction h with
  | nil => rfl
  | cons a t ih => rw [List.any_cons, List.any_cons, ih, a.1]
theorem KvR.put {kvs : List (Key × V)} {es : List (Key × D)} {k : Key} {v : V} {d : D} (h : KvR K B kvs es) (hv : Dn K B v d) : KvR K B (putK kvs k v) (putKD es k d) := by
  have key : KvR K B (kvs.map fun kv => if kv.1 = k then (kv.1, v) else kv) (es.map fun kv => if kv.1 = k then (kv.1, d) else kv) := by
    induction h with
    | nil => exact .nil
    | cons a t ih =>
      refine .cons ?_ ih
      dsimp only
      rw [a.1]
      split
      · exact ⟨rfl, hv⟩
      · exact a
  unfold putK putKD
  rw [h.any k]
  split
  · exact key
  · exact paired_append h (.cons ⟨rfl, hv⟩ .nil)
end
def compDA (t : D → Env → Option Env) (c : Env → Rs Bool) (fk fv : Env → Rs D) : List D → Env → List (Key × D) → Rs (List (Key × D))
  | [], _, acc => .ok acc
  | d :: ds, γ, acc => match t d γ with
    | none => .no
    | some γ1 => (noEr (c γ1)).bind fun b => if b = true then (noEr (fk γ1)).bind fun k => (noEr (fv γ1)).bind fun z => match keyO k with
      | some k => if acc.length < LIM then compDA t c fk fv ds γ (putKD acc k z) else .no
      | none => .no
    else compDA t c fk fv ds γ acc
theorem noEr_bind {α : Type} {x : Rs α} {β : Type} {f : α → Rs β} {y : β} (h : (noEr x).bind f = .ok y) : ∃ a, x = .ok a ∧ f a = .ok y := by
  cases x with
  | ok a => exact ⟨a, rfl, h⟩
  | er _ _ => cases h
  | no => cases h
theorem compDA_cons {t : D → Env → Option Env} {c : Env → Rs Bool} {fk fv : Env → Rs D} {d : D} {ds : List D} {γ : Env} {acc rs : List (Key × D)} (h : compDA t c fk fv (d :: ds) γ acc = .ok rs) :
    ∃ γ1, t d γ = some γ1 ∧ ∃ b, c γ1 = .ok b ∧ ((b = true ∧ ∃ kd z k, fk γ1 = .ok kd ∧ fv γ1 = .ok z ∧ keyO kd = some k ∧ acc.length < LIM ∧ compDA t c fk fv ds γ (putKD acc k z) = .ok rs) ∨ (b = false ∧ compDA t c fk fv ds γ acc = .ok rs)) := by
  unfold compDA at h
  split at h
  · cases h
  · rename_i γ1 ht
    refine ⟨γ1, ht, ?_⟩
    obtain ⟨b, e1, h⟩ := noEr_bind h
    refine ⟨b, e1, ?_⟩
    cases b with
    | false => exact .inr ⟨rfl, h⟩
    | true =>
      rw [if_pos rfl] at h
      obtain ⟨kd, e2, h⟩ := noEr_bind h
      obtain ⟨z, e3, h⟩ := noEr_bind h
      split at h
      · rename_i k hk
        split at h
        · rename_i hl
          exact .inl ⟨rfl, kd, z, k, e2, e3, hk, hl, h⟩
        · cases h
      · cases h
def compDR (vs : List Nat) (t : D → Env → Option Env) (c : Env → Rs Bool) (fk fv : Env → Rs D) (ds : List D) (γ : Env) : Rs D := match compDA t c fk fv ds (wipeE γ vs) [] with
  | .ok es => .ok (dicD es)
  | _ => .no
@[simp] abbrev eDc (vs : List Nat) (fi : Env → Rs (List D)) (t : D → Env → Option Env) (c : Env → Rs Bool) (fk fv : Env → Rs D) : Env → Rs D := fun γ => (fi γ).bind fun ds => compDR vs t c fk fv ds γ
theorem keyO_kV {B H : Hp} {K : PySem.W.Frag} {v : V} {d : D} {k : Key} (h : keyO d = some k) (hv : DnF K B H 0 v d) : v = kV k := by
  unfold keyO at h
  split at h
  · cases h; exact hv.int
  · cases h; exact hv.str
  · cases h
section
variable {X : Cx} {kx vx tg iter : Expr} {ifs : List Expr} {pos : Pos} {G : Gd} {ow owL : List Nat} {scope : Scope} {own : List (Str × Nat)} {t : D → Env → Option Env} {c : Env → Rs Bool} {fk fv : Env → Rs D} {fi : Env → Rs (List D)}
theorem d_dc (own : List (Str × Nat)) (hN : X.N.Nodup) (hi : PI X tg iter (cI G ow fi)) (ok : BlkOk X.N X.env.scope scope own)
    (hg : ∀ (s : Shared) (H : Hp) (C : Addr) (cl : List (Str × Addr)) (fp : List Addr), PG (X.blk s H scope (compEnvC scope cl C X.env) fp) tg (cG G.mute ow (own.map (·.2)) t)) (ht : ∀ (s : Shared) (H : Hp) (C : Addr) (cl : List (Str × Addr)) (fp : List Addr), PTs (X.blk s H scope (compEnvC scope cl C X.env) fp) ifs (cT G.mute ow c))
    (hk : ∀ (s : Shared) (H : Hp) (C : Addr) (cl : List (Str × Addr)) (fp : List Addr), PE (X.blk s H scope (compEnvC scope cl C X.env) fp) kx (cV G.mute ow 0 fk))
    (he : ∀ (s : Shared) (H : Hp) (C : Addr) (cl : List (Str × Addr)) (fp : List Addr), PE (X.blk s H scope (compEnvC scope cl C X.env) fp) vx (cV G.mute ow 0 fv)) (hc : X.calm = true := by rfl) (hx : G.x = none := by rfl) (hs : ∀ x, foldedSetIterable iter X.env x = pure x := by intro _; rfl) :
    PE X (.DictComp kx vx [⟨tg, iter, ifs, 0⟩] scope pos) (cV G ow 0 fun γ => (fi γ).bind fun ds => compDR (own.map (·.2)) t c fk fv ds γ) :=
  (pe_dc hc hN hi ok hg ht hk he hs).impD fun σ H Q ⟨B, γ, I, q⟩ => by
  refine ⟨B, γ, I, q.bind.imp fun ds q J B1 H1 x1 jw => fun Da hDa => ?_⟩
  unfold compDR at q
  cases hr : compDA t c fk fv ds (wipeE γ (own.map (·.2))) [] with
  | er _ _ => rw [hr] at q; exact q.elim
  | no => rw [hr] at q; exact q.elim
  | ok zs =>
    rw [hr] at q
    have q9 : ∀ v B' H', Ext B H B' H' → DnF G.K B' H' 0 v (dicD zs) → Q v H' := q
    refine ⟨fun i m H' => i ≤ ds.length ∧ m = ds.length - i ∧ ∃ (B' : Hp) (kvs : List (Key × V)) (acc : List (Key × D)), Ext B1 H1 B' H' ∧ B' Da = none ∧ H' Da = some (.dK kvs) ∧ KvR G.K B' kvs acc ∧ compDA t c fk fv (ds.drop i) (wipeE γ (own.map (·.2))) acc = .ok zs,
      ⟨ds.length, Nat.zero_le _, by omega, B1, [], [], .hid x1.s hDa, same_none x1.s hDa, upd_same, .nil, hr⟩, fun i m H' hW => ?_⟩
    obtain ⟨hi, rfl, B', kvs, acc, xx, hb, hl', hd, hc⟩ := hW
    obtain ⟨j1, j2⟩ := jw B' H' xx.b xx.s i
    by_cases hlt : i < ds.length
    · obtain ⟨jg, jy⟩ := j1 _ (List.getElem?_eq_getElem hlt)
      refine .inr ⟨jg, fun H2 => ∃ (B2 : Hp) (kvs : List (Key × V)) (acc : List (Key × D)), Ext B1 H1 B2 H2 ∧ B2 Da = none ∧ H2 Da = some (.dK kvs) ∧ KvR G.K B2 kvs acc ∧ compDA t c fk fv (ds.drop (i + 1)) (wipeE γ (own.map (·.2))) acc = .ok zs, fun H2 hN => ⟨ds.length - (i + 1), by omega, by omega, rfl, hN⟩, fun x H2 hy => ?_⟩
      obtain ⟨B2, x2, hx2⟩ := jy x H2 hy
      rw [List.drop_eq_getElem_cons hlt] at hc
      obtain ⟨γ1, ht, b, hcb, hrest⟩ := compDA_cons hc
      have keepD : ∀ {B3 H3 : Hp}, Ext B' H' B3 H3 → B3 Da = none ∧ H3 Da = some (.dK kvs) := fun y => ⟨y.n Da hb ⟨_, hl', fun _ z => nomatch z⟩, y.h _ _ hl'⟩
      refine ⟨B2, wipeE γ (own.map (·.2)), ds[i], γ1, ((I.mono (x1.trans (xx.trans x2))).mute).wipe hx (own.map (·.2)), hx2, ht, fun σ3 hw3 I3 => ⟨hw3.trans (wipe_wipe _ _), B2, γ1, I3, ?_⟩⟩
      rw [hcb]
      intro B3 H3 x3
      rcases hrest with ⟨rfl, kd, z, k, hk1, hv1, hko, hlim, hy2⟩ | ⟨rfl, hy2⟩
      · rw [if_pos rfl]
        refine ⟨B3, γ1, I3.mono x3, ?_⟩
        rw [hk1]
        intro y B4 H4 x4 hy
        refine ⟨B4, γ1, I3.mono (x3.trans x4), ?_⟩
        rw [hv1]
        intro v B5 H5 x5 hv
        have y5 := ((x2.trans x3).trans x4).trans x5
        obtain ⟨k1, k2⟩ := keepD y5
        exact ⟨kvs, k, keyO_kV hko hy, k2, by rw [paired_len hd]; exact lim_lt hlim, B5, _, _, (xx.trans y5).wrh hDa k1, k1, upd_same, (hd.mono y5.b).put hv, hy2⟩
      · rw [if_neg (by decide)]
        obtain ⟨k1, k2⟩ := keepD (x2.trans x3)
        exact ⟨B3, kvs, acc, xx.trans (x2.trans x3), k1, k2, hd.mono (x2.trans x3).b, hy2⟩
    · refine .inl ⟨j2 (by omega), ?_⟩
      rw [List.drop_eq_nil_of_le (by omega)] at hc
      cases hc
      have xs : Ext B H (upd B' Da (.dK kvs)) H' := (x1.trans xx).shown (x1.h.free hDa) hb hl'
      exact q9 (.ref Da) _ H' xs (.dic upd_same (KvR.dn (hd.mono (same_new hb))))
end
end DL
set_option Elab.async false
set_option linter.all false
set_option maxRecDepth 100000
set_option maxHeartbeats 4000000
/-! The data layer: xs[::-1]; written tables with text keys. -/
namespace DL
open PySem PySem.Spec PyProof.Rows L2

def revLD : D → Option (List D)
  | .list ds => some ds.reverse
  | _ => none
section
variable {X : Cx} {a : Expr} {pos : Pos} {G : Gd} {ow : List Nat} {f : Env → Rs D}
theorem n_rev {k : Nat} {p1 p2 p3 : Pos} (ha : PE X a (cV G ow 1 f)) (hK : X.K = G.K := by rfl) :
    PE X (.Subscript a (.Slice none none (some (.UnaryOp .USub (.Constant (.int 1) k p1) p2)) p3) pos) (cN G ow fun γ => (f γ).bind fun d => oR (revLD d)) :=
  (pe_revL ha).impD fun σ H Q ⟨B, γ, I, q⟩ => ⟨B, γ, I, q.bind.imp fun d q v B1 H1 x1 hv => by
    obtain ⟨z, ez, q9⟩ := q.oR
    unfold revLD at ez
    split at ez
    · cases ez
      obtain ⟨p, us, rfl, h1, h2⟩ := hv.items x1.s
      rw [hK]
      refine ⟨p, us, rfl, .inl h1, fun r hr => q9 r _ B1 _ (x1.trans (.hid x1.s hr)) (x1.h.free hr) (same_none x1.s hr) upd_same (DnAll.of_paired h2).reverse⟩
    · cases ez⟩
end

/-! ### written tables -/
/-- a value that needs no heap -/
inductive Cst : V → D → Prop
  | non : Cst .non .none
  | bl (b : Bool) : Cst (.bl b) (.bool b)
  | int (i : Int) : Cst (.int i) (.int i)
  | str (x : Str) : Cst (.str x) (.str x)
theorem Cst.dn {K : PySem.W.Frag} {B : Hp} {v : V} {d : D} (h : Cst v d) : Dn K B v d := by
  cases h with
  | non => exact .non
  | bl b => exact .bl b
  | int i => exact .int i
  | str x => exact .str x
def EntR (e : DictEntry) (q : Str × D) : Prop := (∃ t, e.key = .str q.1 t) ∧ ∃ v, Cst v q.2 ∧ RelV v e.val
/-- the name of a table, as the module's top has written it -/
def WTab (K : PySem.W.Frag) (mg : Str → Option Value) (w : World) (x : Str) (tab : List (Str × D)) : Prop :=
  ∃ d es n, mg x = some (.ref d) ∧ KDict K w d es n ∧ Paired EntR es.toList tab
theorem ent_find {x : Str} : ∀ {l : List DictEntry} {tab : List (Str × D)}, Paired EntR l tab → match tab.find? (fun q => decide (q.1 = x)) with
    | some q => ∃ e, l.find? (·.key.isStr x) = some e ∧ EntR e q
    | none => l.find? (·.key.isStr x) = none
  | _, _, .nil => rfl
  | e :: l, q :: tab, .cons a t => by
    obtain ⟨⟨tk, hk⟩, hv⟩ := a
    have hs : e.key.isStr x = decide (q.1 = x) := by
      rw [hk]
      show (q.1 == x) = _
      by_cases hx : q.1 = x <;> simp [hx]
    rw [List.find?_cons, List.find?_cons, hs]
    cases decide (q.1 = x) with
    | true => exact ⟨e, rfl, ⟨tk, hk⟩, hv⟩
    | false => exact ent_find t
theorem ent_ref : ∀ {l : List DictEntry} {tab : List (Str × D)}, Paired EntR l tab → l.any (·.refKey) = false
  | _, _, .nil => rfl
  | e :: l, q :: tab, .cons a t => by
    obtain ⟨⟨tk, hk⟩, _⟩ := a
    rw [List.any_cons, ent_ref t]
    have : e.refKey = false := by
      unfold DictEntry.refKey
      rw [hk]
    rw [this]
    rfl
theorem tab_ns {K : PySem.W.Frag} {d : Addr} {es : Array DictEntry} {n : Nat} {tab : List (Str × D)} (hl : K.lookup d = some ⟨.type "dict", none, .dict es n, #[]⟩) (h : Paired EntR es.toList tab) (x : Str) :
    match tab.find? (fun q => decide (q.1 = x)) with
    | some q => ∃ v u, Cst v q.2 ∧ RelV v u ∧ PySem.W.nsIn K d x = some (some u)
    | none => PySem.W.nsIn K d x = some none := by
  have hf := ent_find (x := x) h
  have e : PySem.W.nsIn K d x = (match es.toList.find? (·.key.isStr x) with
      | some e => some (some e.val)
      | none => if es.toList.any (·.refKey) then none else some none) := by
    unfold PySem.W.nsIn
    rw [hl]
    rfl
  cases hq : tab.find? (fun q => decide (q.1 = x)) with
  | some q =>
    rw [hq] at hf
    obtain ⟨en, h1, _, v, h2, h3⟩ := hf
    rw [h1] at e
    exact ⟨v, en.val, h2, h3, e⟩
  | none =>
    rw [hq] at hf
    have hf' : es.toList.find? (·.key.isStr x) = none := hf
    rw [hf', ent_ref h] at e
    exact e
def inW (tab : List (Str × D)) (neg : Bool) : D → Option D
  | .str x => some (.bool (neg != (tab.find? fun q => decide (q.1 = x)).isSome))
  | _ => none
def ixW (tab : List (Str × D)) : D → Option D
  | .str x => (tab.find? fun q => decide (q.1 = x)).map (·.2)
  | _ => none
section
variable {X : Cx} {a : Expr} {pos p : Pos} {G : Gd} {ow : List Nat} {f : Env → Rs D} {x : Str} {tab : List (Str × D)}
theorem d_inW (T : WTab X.K X.mg X.w x tab) (ha : PE X a (cV G ow 1 f)) (hg : Gl X x := by rfl) (hd : (x == ("__debug__" : Str)) = false := by decide) (hm : behindInMarks .In (.Name x p) = false := by rfl) :
    PE X (.Compare a [.In] [.Name x p] pos) (cV G ow 0 (b1 f (inW tab false))) := by
  obtain ⟨d, es, n, h1, h2, h3⟩ := T
  refine (pe_cmpR (op_in_kd h2) ha (pe_glob (v := .ref d) hg h1 rfl hd) hm).impD fun σ H Q ⟨B, γ, I, q⟩ => ⟨B, γ, I, q.bind.imp fun e q v B1 H1 x1 hv => ?_⟩
  obtain ⟨z, ez, q9⟩ := q.oR
  unfold inW at ez
  split at ez
  · rename_i y
    cases ez
    have ht := tab_ns h2.at_ h3 y
    cases hq : tab.find? (fun q => decide (q.1 = y)) with
    | some r =>
      rw [hq] at ht q9
      obtain ⟨v, u, _, _, e⟩ := ht
      exact ⟨y, _, hv.str, rfl, e, q9 _ B1 H1 x1 (Dn.bl _)⟩
    | none =>
      rw [hq] at ht q9
      exact ⟨y, _, hv.str, rfl, ht, q9 _ B1 H1 x1 (Dn.bl _)⟩
  · cases ez
theorem d_notinW (T : WTab X.K X.mg X.w x tab) (ha : PE X a (cV G ow 1 f)) (hg : Gl X x := by rfl) (hd : (x == ("__debug__" : Str)) = false := by decide) (hm : behindInMarks .NotIn (.Name x p) = false := by rfl) :
    PE X (.Compare a [.NotIn] [.Name x p] pos) (cV G ow 0 (b1 f (inW tab true))) := by
  obtain ⟨d, es, n, h1, h2, h3⟩ := T
  refine (pe_cmpR (op_notIn_kd h2) ha (pe_glob (v := .ref d) hg h1 rfl hd) hm).impD fun σ H Q ⟨B, γ, I, q⟩ => ⟨B, γ, I, q.bind.imp fun e q v B1 H1 x1 hv => ?_⟩
  obtain ⟨z, ez, q9⟩ := q.oR
  unfold inW at ez
  split at ez
  · rename_i y
    cases ez
    have ht := tab_ns h2.at_ h3 y
    cases hq : tab.find? (fun q => decide (q.1 = y)) with
    | some r =>
      rw [hq] at ht q9
      obtain ⟨v, u, _, _, e⟩ := ht
      exact ⟨y, _, hv.str, rfl, e, q9 _ B1 H1 x1 (Dn.bl _)⟩
    | none =>
      rw [hq] at ht q9
      exact ⟨y, _, hv.str, rfl, ht, q9 _ B1 H1 x1 (Dn.bl _)⟩
  · cases ez
theorem d_ixW {b : Expr} {q : Pos} (T : WTab X.K X.mg X.w x tab) (ha : PE X b (cV G ow 1 f)) (hg : Gl X x := by rfl) (hd : (x == ("__debug__" : Str)) = false := by decide) (hs : PlainIx b := by intro _ _; rfl) :
    PE X (.Subscript (.Name x q) b pos) (cV G ow 0 (b1 f (ixW tab))) := by
  obtain ⟨d, es, n, h1, h2, h3⟩ := T
  refine (pe_ix ix_kdict (pe_glob (v := .ref d) hg h1 rfl hd) ha hs).impD fun σ H Q ⟨B, γ, I, q⟩ => ⟨B, γ, I, q.bind.imp fun e q v B1 H1 x1 hv => ?_⟩
  obtain ⟨z, ez, q9⟩ := q.oR
  unfold ixW at ez
  split at ez
  · rename_i y
    have ht := tab_ns h2.at_ h3 y
    cases hq : tab.find? (fun q => decide (q.1 = y)) with
    | none => rw [hq] at ez; cases ez
    | some r =>
      rw [hq] at ht ez
      cases ez
      obtain ⟨v', u, hc, hr, e⟩ := ht
      exact ⟨d, y, v', rfl, hv.str, ⟨es, n, u, h2.at_, h2.lit, e, hr⟩, q9 _ B1 H1 x1 hc.dn⟩
  · cases ez
/-- as tests -/
theorem t_inW (T : WTab X.K X.mg X.w x tab) (ha : PE X a (cV G ow 1 f)) (hg : Gl X x := by rfl) (hd : (x == ("__debug__" : Str)) = false := by decide) (hm : behindInMarks .In (.Name x p) = false := by rfl) :
    PT X (.Compare a [.In] [.Name x p] pos) (cT G ow (b1 (b1 f (inW tab false)) boolO)) := by
  obtain ⟨d, es, n, h1, h2, h3⟩ := T
  refine (pt_cmpR (op_in_kd h2) ha (pe_glob (v := .ref d) hg h1 rfl hd) hm).impD fun σ H Q ⟨B, γ, I, q⟩ => ⟨B, γ, I, q.bind.bind.imp fun e q v B1 H1 x1 hv => ?_⟩
  obtain ⟨z, ez, q⟩ := q.oR
  obtain ⟨k, ek, q9⟩ := q.oR
  unfold inW at ez
  split at ez
  · rename_i y
    cases ez
    cases ek
    have ht := tab_ns h2.at_ h3 y
    cases hq : tab.find? (fun q => decide (q.1 = y)) with
    | some r =>
      rw [hq] at ht q9
      obtain ⟨v, u, _, _, e⟩ := ht
      exact ⟨y, _, hv.str, rfl, e, _, rfl, q9 B1 H1 x1⟩
    | none =>
      rw [hq] at ht q9
      exact ⟨y, _, hv.str, rfl, ht, _, rfl, q9 B1 H1 x1⟩
  · cases ez
theorem t_notinW (T : WTab X.K X.mg X.w x tab) (ha : PE X a (cV G ow 1 f)) (hg : Gl X x := by rfl) (hd : (x == ("__debug__" : Str)) = false := by decide) (hm : behindInMarks .NotIn (.Name x p) = false := by rfl) :
    PT X (.Compare a [.NotIn] [.Name x p] pos) (cT G ow (b1 (b1 f (inW tab true)) boolO)) := by
  obtain ⟨d, es, n, h1, h2, h3⟩ := T
  refine (pt_cmpR (op_notIn_kd h2) ha (pe_glob (v := .ref d) hg h1 rfl hd) hm).impD fun σ H Q ⟨B, γ, I, q⟩ => ⟨B, γ, I, q.bind.bind.imp fun e q v B1 H1 x1 hv => ?_⟩
  obtain ⟨z, ez, q⟩ := q.oR
  obtain ⟨k, ek, q9⟩ := q.oR
  unfold inW at ez
  split at ez
  · rename_i y
    cases ez
    cases ek
    have ht := tab_ns h2.at_ h3 y
    cases hq : tab.find? (fun q => decide (q.1 = y)) with
    | some r =>
      rw [hq] at ht q9
      obtain ⟨v, u, _, _, e⟩ := ht
      exact ⟨y, _, hv.str, rfl, e, _, rfl, q9 B1 H1 x1⟩
    | none =>
      rw [hq] at ht q9
      exact ⟨y, _, hv.str, rfl, ht, _, rfl, q9 B1 H1 x1⟩
  · cases ez
end
end DL
set_option Elab.async false
set_option linter.all false
set_option maxRecDepth 100000
set_option maxHeartbeats 4000000
/-! The data layer: how many different ones there are, len(set(xs)). -/
namespace DL
open PySem PySem.Spec PyProof.Rows L2

/-- the different ones -/
def nubL {α : Type} [DecidableEq α] : List α → List α
  | [] => []
  | x :: r => if x ∈ nubL r then nubL r else x :: nubL r
theorem nubL_mem {α : Type} [DecidableEq α] {x : α} : ∀ {l : List α}, x ∈ nubL l ↔ x ∈ l
  | [] => Iff.rfl
  | y :: r => by
    unfold nubL
    split
    · rename_i h
      rw [nubL_mem, List.mem_cons]
      constructor
      · exact .inr
      · rintro (rfl | h2)
        · exact nubL_mem.mp h
        · exact h2
    · rw [List.mem_cons, List.mem_cons, nubL_mem]
theorem nubL_nd {α : Type} [DecidableEq α] : ∀ l : List α, (nubL l).Nodup
  | [] => .nil
  | y :: r => by
    unfold nubL
    split
    · exact nubL_nd r
    · rename_i h
      exact List.nodup_cons.mpr ⟨h, nubL_nd r⟩
theorem nub_count {α : Type} [DecidableEq α] {l k : List α} (hk : k.Nodup) (h : ∀ x, x ∈ k ↔ x ∈ l) : k.length = (nubL l).length :=
  ((List.perm_ext_iff_of_nodup hk (nubL_nd l)).mpr fun x => by rw [h, nubL_mem]).length_eq
theorem firstMet_nd (val : Nat → Int) : ∀ i, (firstMet val i).Nodup
  | 0 => .nil
  | i + 1 => by
    rw [firstMet_succ]
    unfold step_dedup
    split
    · exact firstMet_nd val i
    · rename_i h
      rw [List.nodup_append]
      refine ⟨firstMet_nd val i, by simp, fun a ha b hb e => h (List.any_eq_true.mpr ⟨a, ha, ?_⟩)⟩
      rw [List.mem_singleton] at hb
      rw [e, hb]
      exact beq_self_eq_true _
theorem firstMet_mem (val : Nat → Int) (x : Int) : ∀ i, x ∈ firstMet val i ↔ ∃ j, j < i ∧ val j = x
  | 0 => by
    constructor
    · intro h; cases h
    · rintro ⟨j, h, _⟩; omega
  | i + 1 => by
    have ih := firstMet_mem val x i
    rw [firstMet_succ]
    unfold step_dedup
    split
    · rename_i h
      obtain ⟨y, hy, e⟩ := List.any_eq_true.mp h
      have e : y = val i := beq_iff_eq.mp e
      rw [ih]
      constructor
      · rintro ⟨j, h1, h2⟩; exact ⟨j, by omega, h2⟩
      · rintro ⟨j, h1, h2⟩
        by_cases hj : j = i
        · subst hj
          rw [← h2, ← e]
          obtain ⟨j', h3, h4⟩ := (firstMet_mem val y j).mp hy
          exact ⟨j', h3, h4⟩
        · exact ⟨j, by omega, h2⟩
    · rw [List.mem_append, List.mem_singleton, ih]
      constructor
      · rintro (⟨j, h1, h2⟩ | h)
        · exact ⟨j, by omega, h2⟩
        · exact ⟨i, by omega, h.symm⟩
      · rintro ⟨j, h1, h2⟩
        by_cases hj : j = i
        · subst hj; exact .inr h2.symm
        · exact .inl ⟨j, by omega, h2⟩
theorem firstMet_count (ns : List Int) : (firstMet (fun i => ns.getD i 0) ns.length).length = (nubL ns).length :=
  nub_count (firstMet_nd _ _) fun x => by
    rw [firstMet_mem]
    constructor
    · rintro ⟨j, h1, h2⟩
      rw [List.getD_eq_getElem?_getD, List.getElem?_eq_getElem h1] at h2
      rw [← h2]
      exact List.getElem_mem h1
    · intro h
      obtain ⟨j, h1, h2⟩ := List.getElem_of_mem h
      exact ⟨j, h1, by rw [List.getD_eq_getElem?_getD, List.getElem?_eq_getElem h1]; exact h2⟩
def tupsO : List D → Option (List (List Int))
  | [] => some []
  | .tuple ds :: r => (intsO ds).bind fun ns => (tupsO r).map fun l => ns :: l
  | _ :: _ => none
def lsetD : D → Option D
  | .list ds => match intsO ds with
    | some ns => if ns.length ≤ 1000 then some (.int ((nubL ns).length : Nat)) else none
    | none => match tupsO ds with
      | some tss => if tss.length < 64 then some (.int ((nubL tss).length : Nat)) else none
      | none => none
  | _ => none
theorem tups_vals {K : PySem.W.Frag} {H : Hp} : ∀ {xs : List V} {ds : List D} {tss : List (List Int)}, DnAll K H xs ds → tupsO ds = some tss →
    ∃ ks : List (Addr × List Int), xs = ks.map (fun p => V.ref p.1) ∧ ks.map (·.2) = tss ∧ ∀ p ∈ ks, SqT K H p.1 (p.2.map V.int)
  | _, _, _, .nil, h => by
    cases h
    exact ⟨[], rfl, rfl, fun p hp => by cases hp⟩
  | _, _, tss, .cons (v := v) (d := d) (ds := rs) a t, h => by
    unfold tupsO at h
    split at h
    · rename_i e; cases e
    · rename_i ds r e
      cases e
      cases hi : intsO ds with
      | none => rw [hi] at h; cases h
      | some ns =>
        rw [hi] at h
        cases hr : tupsO rs with
        | none => rw [hr] at h; cases h
        | some l =>
          rw [hr] at h
          cases h
          obtain ⟨ks, h1, h2, h3⟩ := tups_vals t hr
          cases a with
          | tup s a' =>
            rename_i p us
            rw [intsO_some hi] at a'
            rw [DnAll.ints a'] at s
            exact ⟨(p, ns) :: ks, by rw [h1]; rfl, by rw [List.map_cons, h2], fun q hq => by
              rcases List.mem_cons.mp hq with e | e
              · subst e; exact .inl (.inl s)
              · exact h3 q e⟩
    · cases h
section
variable {X : Cx} {a : Expr} {p p2 q pos : Pos} {G : Gd} {ow : List Nat} {f : Env → Rs D}
/-- the reading: the list's items are ints, or tuples of ints -/
def tLS (K : PySem.W.Frag) (ta : TE) : TE := fun σ H Q => ta σ H fun x H1 => ∃ l : Addr, x = V.ref l ∧
  ((∃ ns : List Int, SqL K H1 l (ns.map V.int) ∧ ns.length ≤ 1000 ∧ Q (.int (nubL ns).length) H1) ∨
   (∃ ks : List (Addr × List Int), SqL K H1 l (ks.map fun p => V.ref p.1) ∧ (∀ p ∈ ks, SqT K H1 p.1 (p.2.map V.int)) ∧ ks.length < 64 ∧ Q (.int (nubL (ks.map (·.2))).length) H1))
theorem pe_LS {ta : TE} (hc : X.calm = true) (hu : X.A.units + 64 < cLine) (hg : Gl X "len") (hm : X.mg "len" = none) (hg2 : Gl X "set") (hm2 : X.mg "set" = none) (ha : PE X a ta)
    (na : starEach [a] X.env = (false, eval a X.env) :: starEach [] X.env := by rfl) : PE X (.Call (.Name "len" p) [.Call (.Name "set" p2) [a] [] q] [] pos) (tLS X.K ta) := ⟨fun pins s σ H Q I h => by
  refine (Call_ (ld_blt I hg hm PySem.boot_len (PyProof.Rows.callWith_builtin1 (PyProof.Rows.args_cons ?_ rfl) rfl rfl)))
  refine (Call_ (ld_blt I hg2 hm2 PyProof.Rows.boot_set (PyProof.Rows.callWith_type1 (PyProof.Rows.args_cons (thn (ha.run pins s σ H _ I h) fun v s1 h1 => PyProof.Rows.args_nil ?_) na) na rfl)))
  obtain ⟨x, H1, I1, r1, l, e1, h1⟩ := h1
  subst e1
  cases r1
  rcases h1 with ⟨ns, hq, hle, q1⟩ | ⟨ks, hq, hk, hf, q1⟩
  · obtain ⟨its, r, pl, hz⟩ := I1.list hq
    have hsz : its.toArray.size = ns.length := by simpa using r.length.symm
    refine call_set_list (ns := ns) (I1.ok.hd hc) pl.isList (by simpa using r.ints) (by unfold scanBound; omega) fun h' tk hS hk => ?_
    rw [hsz, firstMet_count] at hS
    obtain ⟨o, es, ep, t, ho, hex, hd, _, _, _, hfit, hn⟩ := hS
    have I2 : Inv X pins σ H1 { s1 with heap := h', toks := tk } := I1.kept fun b o e => (hk b o (Heap.lt_size e) e)
    have hle2 : (nubL ns).length ≤ 1000 := by
      have := (nubL_nd ns).length_le_of_subset (l₂ := ns) fun x hx => nubL_mem.mp hx
      omega
    exact PyProof.Rows.args_nil (call_len_set ho hex hd hfit (by rw [hn]; omega) ⟨.int (nubL ns).length, H1, I2.tok _, ⟨_, by rw [hn]⟩, q1⟩)
  · obtain ⟨its, r, pl, hz⟩ := I1.list hq
    refine call_set_tups (P := X.prog) (w := X.w) ks (I1.ok.hd hc) pl.isList (by simpa using refs_of_vals r) (fun p hp => I1.isT (hk p hp)) hf (by omega) fun h' tk L es ep t R g kp => ?_
    have I2 : Inv X pins σ H1 { s1 with heap := h', toks := tk } := I1.kept kp
    have hn : es.size = (nubL (ks.map (·.2))).length := by
      rw [SetTR.size (s := { s1 with heap := h', toks := tk }) R, ← List.length_map (f := (·.2))]
      refine nub_count R.nd fun x => ⟨fun hx => ?_, fun hx => ?_⟩
      · obtain ⟨z, hz, rfl⟩ := List.mem_map.mp hx
        exact List.mem_map.mpr ⟨z, List.mem_of_mem_take (g.sub z hz), rfl⟩
      · obtain ⟨z, hz, rfl⟩ := List.mem_map.mp hx
        exact g.all z (by rw [List.take_length]; exact hz)
    have hsm : es.size < 64 := by rw [SetTR.size (s := { s1 with heap := h', toks := tk }) R]; exact R.few
    obtain ⟨o, ho, hex, hd⟩ := R.ob
    exact PyProof.Rows.args_nil (call_len_set ho hex hd (SetTR.fits (s := { s1 with heap := h', toks := tk }) R) (by omega) ⟨.int (nubL (ks.map (·.2))).length, H1, I2.tok _, ⟨_, by rw [hn]⟩, q1⟩)⟩
theorem d_lset {n : Nat} (hr : Room n X.A) (hm : X.mg "len" = none) (hm2 : X.mg "set" = none) (ha : PE X a (cV G ow 1 f)) (hc : X.calm = true := by rfl) (hg : Gl X "len" := by rfl) (hg2 : Gl X "set" := by rfl) (hK : X.K = G.K := by rfl)
    (na : starEach [a] X.env = (false, eval a X.env) :: starEach [] X.env := by rfl) : PE X (.Call (.Name "len" p) [.Call (.Name "set" p2) [a] [] q] [] pos) (cV G ow 0 (b1 f lsetD)) :=
  (pe_LS hc (by have := hr.un; omega) hg hm hg2 hm2 ha na).impD fun σ H Q ⟨B, γ, I, q⟩ => ⟨B, γ, I, q.bind.imp fun d q v B1 H1 x1 hv => by
    obtain ⟨z, ez, q9⟩ := q.oR
    unfold lsetD at ez
    split at ez
    · rename_i ds
      obtain ⟨p, us, rfl, h1, h2⟩ := hv.items x1.s
      have hd : DnAll G.K H1 us ds := (DnAll.of_paired h2).mono x1.s
      rw [hK]
      refine ⟨p, rfl, ?_⟩
      split at ez
      · rename_i ns hi
        split at ez
        · rename_i hle
          cases ez
          rw [intsO_some hi] at hd
          rw [DnAll.ints hd] at h1
          exact .inl ⟨ns, .inl h1, hle, q9 _ B1 H1 x1 (Dn.int _)⟩
        · cases ez
      · split at ez
        · rename_i tss ht
          split at ez
          · rename_i hlt
            cases ez
            obtain ⟨ks, k1, k2, k3⟩ := tups_vals hd ht
            rw [k1] at h1
            subst k2
            exact .inr ⟨ks, .inl h1, k3, by rw [List.length_map] at hlt; exact hlt, q9 _ B1 H1 x1 (Dn.int _)⟩
          · cases ez
        · cases ez
    · cases ez⟩
end
end DL
set_option Elab.async false
set_option linter.all false
set_option maxRecDepth 100000
set_option maxHeartbeats 4000000
/-! The data layer: ranges with a step. -/
namespace DL
open PySem PySem.Spec PyProof.Rows L2

/-- i, i + c, .. : n ints -/
def stpD (i c : Int) (n : Nat) : List D := (List.range n).map fun k : Nat => PyData.int (i + (k : Nat) * c)
theorem jw_stp {K : PySem.W.Frag} {B : Hp} {i c : Int} {n : Nat} : JW K B (Itc i c n) (stpD i c n) := fun B' H' s s' j => by
  refine ⟨fun d e => ?_, fun hl => ?_⟩
  · unfold stpD at e
    rw [List.getElem?_map] at e
    by_cases hi : j < n
    · rw [List.getElem?_range hi] at e
      cases e
      refine ⟨hi, fun x H2 hx => ?_⟩
      obtain ⟨rfl, rfl⟩ := hx
      exact ⟨B', .refl s', .int _⟩
    · rw [List.getElem?_eq_none (by simpa using hi)] at e
      cases e
  · show n ≤ j
    simpa [stpD] using hl
/-- the number of turns, where the bounds are small -/
def stpN (i j c : Int) : Option Nat := if (c ≠ 0 ∧ c.natAbs < 1073741824 ∧ Builtin.Range.small i j c = true) ∧ 0 ≤ Builtin.Range.rangeSize i j c then some (Builtin.Range.rangeSize i j c).toNat else none
theorem stpN_rg {i j c : Int} {n : Nat} (h : stpN i j c = some n) : RgC i j c n := by
  unfold stpN at h
  split at h
  · rename_i hc
    cases h
    exact ⟨hc.1.1, hc.1.2.1, hc.1.2.2, by have := hc.2; omega⟩
  · cases h
def rg3 : List D → Option (List D)
  | [.int i, .int j, .int c] => (stpN i j c).map fun n => stpD i c n
  | _ => none
section
variable {X : Cx} {tg a b c : Expr} {pos p : Pos} {G : Gd} {ow : List Nat} {f g h : Env → Rs D} {fs : Env → Rs (List D)}
theorem i_rg3 (ha : PA X [a, b, c] (cA G ow 1 fs)) (hg : Gl X "range" := by rfl) (hm : X.mg "range" = none) (hs : starEach [a, b, c] X.env = (false, eval a X.env) :: starEach [b, c] X.env := by rfl) (hpl : (backTo pos (starEach [b, c] X.env)).any (·.1) = false := by rfl) :
    PI X tg (.Call (.Name "range" p) [a, b, c] [] pos) (cI G ow fun γ => (fs γ).bind fun ds => oR (rg3 ds)) := (pi_range3 hg hm ha hs hpl).impD fun σ H R ⟨B, γ, I, q⟩ => ⟨B, γ, I, q.bind.imp fun ds q vs B1 H1 x1 hvs => by
  obtain ⟨z, ez, q⟩ := q.oR
  unfold rg3 at ez
  split at ez
  · rename_i i j c
    cases hn : stpN i j c with
    | none => rw [hn] at ez; cases ez
    | some n =>
      rw [hn] at ez
      cases ez
      cases hvs with
      | cons h1 t1 => cases t1 with
        | cons h2 t2 => cases t2 with
          | cons h3 t3 =>
            cases t3
            exact ⟨i, j, c, n, by rw [DnF.int h1, DnF.int h2, DnF.int h3], stpN_rg hn, q _ B1 H1 x1 jw_stp⟩
  · cases ez⟩
/-- list(range(a, b, c)) -/
def tL3 (ta : TA) : TE := fun σ H Q => ta σ H fun vs H1 => ∃ (i j c : Int) (n : Nat), vs = [.int i, .int j, .int c] ∧ RgC i j c n ∧ n ≤ 1000000 ∧ ∀ q, H1 q = none → Q (.ref q) (upd H1 q (.lst ((List.range n).map fun k : Nat => V.int (i + (k : Nat) * c))))
theorem pe_L3 {ta : TA} {p1 p2 : Pos} (hc : X.calm = true) (hm : X.mg "list" = none) (hmr : X.mg "range" = none) (ha : PA X [a, b, c] ta) (hg : Gl X "list") (hgr : Gl X "range")
    (na : starEach [a, b, c] X.env = (false, eval a X.env) :: starEach [b, c] X.env) (hpl : (backTo p2 (starEach [b, c] X.env)).any (·.1) = false)
    (nb : starEach [.Call (.Name "range" p1) [a, b, c] [] p2] X.env = (false, eval (.Call (.Name "range" p1) [a, b, c] [] p2) X.env) :: starEach [] X.env) :
    PE X (.Call (.Name "list" p) [.Call (.Name "range" p1) [a, b, c] [] p2] [] pos) (tL3 ta) := ⟨fun pins s σ H Q I hh => by
  refine (Call_ (ld_blt I hg hm boot_list (PyProof.Rows.callWith_type1 (PyProof.Rows.args_cons ?_ nb) nb rfl)))
  refine (Call_ (ld_blt I hgr hmr boot_range (PyProof.Rows.callWith_type1 (thn (ha.run p2 pins s σ H _ I hh) fun us s1 h1 => ?_) na hpl)))
  obtain ⟨vs, H1, I1, r1, i, j, c, n, e, ⟨c0, c1, c2, c3⟩, hn, q⟩ := h1
  subst e
  cases r1 with
  | cons ra rr => cases rr with
    | cons rb rr => cases rr with
      | cons rc rr =>
        cases rr
        obtain ⟨t, rfl⟩ := ra
        obtain ⟨t', rfl⟩ := rb
        obtain ⟨t'', rfl⟩ := rc
        refine (call_range_3 c0 (PyProof.Rows.args_nil ?_) (.inl (PyProof.noPylong_small c1)))
        have I2 : Inv X pins σ H1 { s1 with heap := s1.heap.push { cls := .type "range", data := .fields #[.int i t, .int j t', .int c t''] } } := (I1.kept (t' := s1.toks) (fun b o e => Heap.get?_push_of_some _ e))
        refine call_list_range (n := n) (I2.ok.hd hc) (IsRange.new _ _ _ _ _ _ _) c2 c3 (Nat.le_trans hn (by decide)) fun h' tk acc c' hk e' hi => ?_
        have hl : acc.toList.length = n := by rw [Array.length_toList]; exact hi.1
        refine ⟨.ref _, _, I2.laid (o := .lst ((List.range n).map fun k : Nat => V.int (i + (k : Nat) * c))) hk (Nat.le_refl _) ⟨?_, acc.toList, c', ?_, ?_⟩, rfl, q _ (I2.hok.fresh (Nat.le_refl _))⟩
        · rw [List.length_map, List.length_range]; exact lim_le hn
        · have hv := vals_of_get acc.toList (fun k : Nat => V.int (i + (k : Nat) * c)) fun j u hj => hi.2 j u (by rw [← Array.getElem?_toList]; exact hj)
          rwa [hl] at hv
        · rw [Array.toArray_toList]; exact e'⟩
theorem n_listrg3 {p1 p2 : Pos} (hm : X.mg "list" = none) (hmr : X.mg "range" = none) (ha : PA X [a, b, c] (cA G ow 1 fs)) (hc : X.calm = true := by rfl) (hg : Gl X "list" := by rfl) (hgr : Gl X "range" := by rfl)
    (na : starEach [a, b, c] X.env = (false, eval a X.env) :: starEach [b, c] X.env := by rfl) (hpl : (backTo p2 (starEach [b, c] X.env)).any (·.1) = false := by rfl)
    (nb : starEach [.Call (.Name "range" p1) [a, b, c] [] p2] X.env = (false, eval (.Call (.Name "range" p1) [a, b, c] [] p2) X.env) :: starEach [] X.env := by rfl) :
    PE X (.Call (.Name "list" p) [.Call (.Name "range" p1) [a, b, c] [] p2] [] pos) (cN G ow fun γ => (fs γ).bind fun ds => oR ((rg3 ds).bind szL)) :=
  (pe_L3 hc hm hmr ha hg hgr na hpl nb).impD fun σ H Q ⟨B, γ, I, q⟩ => ⟨B, γ, I, q.bind.imp fun ds q vs B1 H1 x1 hvs => by
    obtain ⟨z, ez, q⟩ := q.oR
    unfold rg3 at ez
    split at ez
    · rename_i i j c
      cases hn : stpN i j c with
      | none => rw [hn] at ez; cases ez
      | some n =>
        rw [hn] at ez
        obtain ⟨hl, e9⟩ := szL_some (show szL (stpD i c n) = some z from ez)
        subst e9
        cases hvs with
        | cons h1 t1 => cases t1 with
          | cons h2 t2 => cases t2 with
            | cons h3 t3 =>
              cases t3
              refine ⟨i, j, c, n, by rw [DnF.int h1, DnF.int h2, DnF.int h3], stpN_rg hn, by simpa [stpD] using hl, fun r hr => q r _ B1 _ (x1.trans (.hid x1.s hr)) (x1.h.free hr) (same_none x1.s hr) upd_same ?_⟩
              have := DnAll.of_ints (K := G.K) (H := B1) ((List.range n).map fun k : Nat => i + (k : Nat) * c)
              unfold stpD
              simpa [List.map_map, Function.comp_def] using this
    · cases ez⟩
end
end DL
set_option Elab.async false
set_option linter.all false
set_option maxRecDepth 100000
set_option maxHeartbeats 4000000
/-! The data layer: xs[a::c], c > 0 and a written. -/
namespace DL
open PySem PySem.Spec PyProof.Rows L2

/-- every c-th from lo on -/
def pickL {α : Type} (lo : Option Int) (c : Int) (xs : List α) : List α :=
  let b := sliceBounds lo none (some c) xs.length
  (sliceRange b.1 b.2.1 b.2.2).filterMap fun k => xs[k]?
theorem paired_at {α β : Type} {F : α → β → Prop} : ∀ {xs : List α} {ys : List β}, Paired F xs ys → ∀ (k : Nat) (h1 : k < xs.length) (h2 : k < ys.length), F xs[k] ys[k]
  | _, _, .cons a _, 0, _, _ => a
  | _, _, .cons _ t, k + 1, h1, h2 => paired_at t k (Nat.lt_of_succ_lt_succ h1) (Nat.lt_of_succ_lt_succ h2)
theorem paired_pick {α β : Type} {F : α → β → Prop} {xs : List α} {ys : List β} (h : Paired F xs ys) : ∀ ks : List Nat, Paired F (ks.filterMap fun k => xs[k]?) (ks.filterMap fun k => ys[k]?)
  | [] => .nil
  | k :: ks => by
    have ih := paired_pick h ks
    have hl := paired_len h
    by_cases hk : k < xs.length
    · have hk2 : k < ys.length := by omega
      rw [List.filterMap_cons_some (List.getElem?_eq_getElem hk), List.filterMap_cons_some (List.getElem?_eq_getElem hk2)]
      refine .cons ?_ ih
      exact paired_at h k hk hk2
    · rw [List.filterMap_cons_none (List.getElem?_eq_none (by omega)), List.filterMap_cons_none (List.getElem?_eq_none (by omega))]
      exact ih
theorem paired_pickL {α β : Type} {F : α → β → Prop} {xs : List α} {ys : List β} (lo : Option Int) (c : Int) (h : Paired F xs ys) : Paired F (pickL lo c xs) (pickL lo c ys) := by
  unfold pickL
  rw [paired_len h]
  exact paired_pick h _
theorem pick_items (its : List Value) (lo : Option Int) (c : Int) : slicePick its.toArray lo none (some c) = (pickL lo c its).toArray := by
  unfold slicePick pickL
  rw [List.size_toArray]
  congr 1
  simp
theorem pickL_le {α : Type} (its : List Value) (lo : Option Int) (c : Int) : (pickL lo c its).length ≤ its.length := by
  have h := slicePick_size_le its.toArray lo none (some c)
  rw [pick_items, List.size_toArray, List.size_toArray] at h
  exact h
def stepLD (lo : Option Int) (c : Int) : D → Option (List D)
  | .list ds => some (pickL lo c ds)
  | _ => none
def tFix (o : Option Int) : TO := fun _ H Q => Q o H
section
variable {X : Cx} {a : Expr} {pos : Pos} {G : Gd} {ow : List Nat} {f : Env → Rs D}
theorem fix_none : PO X none (tFix none) := po_none.impD fun _ _ _ q => q
theorem fix_some {i : Int} {k : Nat} {p : Pos} : PO X (some (.Constant (.int i) k p)) (tFix (some i)) := (po_some pe_int).impD fun _ _ _ q => ⟨i, rfl, q⟩
/-- the reading -/
def tStepL (K : PySem.W.Frag) (lo : Option Int) (c : Int) (te : TE) : TE := fun σ H Q => te σ H fun x H1 => ∃ l xs, x = .ref l ∧ SqL K H1 l xs ∧ ∀ r, H1 r = none → Q (.ref r) (upd H1 r (.lst (pickL lo c xs)))
theorem pe_stepL {te : TE} {lo : Option Expr} {o : Option Int} {c : Int} {k : Nat} {p1 p2 : Pos} (ha : PE X a te) (hlo : PO X lo (tFix o)) (h0 : (some c : Option Int) ≠ some 0)
    (hsub : ∀ ov iv, subscripted (.Slice lo none (some (.Constant (.int c) k p1)) p2) false ov iv = operate [ov, iv] (getItem ov iv)) :
    PE X (.Subscript a (.Slice lo none (some (.Constant (.int c) k p1)) p2) pos) (tStepL X.K o c te) := ⟨fun pins s σ H Q I h => by
  refine Subscript_ (thn (ha.run pins s σ H _ I h) fun av t1 ⟨x, Ha, Ia, ra, l, xs, ex, hx, q⟩ => ?_)
  subst ex
  cases ra
  refine wpAny_Slice (thn (hlo.run pins t1 σ Ha (fun z Hz => z = o ∧ Hz = Ha) Ia ⟨rfl, rfl⟩) fun lv t2 ⟨lz, Hb, Ib, pl, el, eb⟩ => ?_)
  subst eb
  subst el
  refine thn (fix_none.run pins t2 σ Hb (fun z Hz => z = none ∧ Hz = Hb) Ib ⟨rfl, rfl⟩) fun uv t3 ⟨uz, Hc, Ic, pu, eu, ec⟩ => ?_
  subst ec
  subst eu
  refine thn ((fix_some (i := c)).run pins t3 σ Hc (fun z Hz => z = some c ∧ Hz = Hc) Ic ⟨rfl, rfl⟩) fun sv t4 ⟨sz, Hd, Id, ps, es, ed⟩ => ?_
  subst ed
  subst es
  have Ie : Inv X pins σ Hd { t4 with heap := t4.heap.push { cls := .type "slice", data := .fields #[lv, uv, sv] } } := Id.kept (t' := t4.toks) fun _ _ w => Heap.get?_push_of_some _ w
  obtain ⟨its, rel, ht, hz⟩ := Ie.list hx
  have hlen := rel.length
  refine tail_any (ops := [.ref l, .ref t4.heap.objs.size]) ht.isList.typeIs (PySem.slot_list_getitem.lookup) ?_ (hsub _ _)
  refine wpAny_getItem_list_slice ht.isList (Heap.IsSliceOf.new _ lv uv sv) pl pu ps h0 ?_ (by rw [List.size_toArray]; omega)
  rw [pick_items]
  have hle := pickL_le (α := Value) its lz c
  refine ⟨.ref _, _, Ie.laid (t' := t4.toks) (o := .lst (pickL lz c xs)) (fun _ _ w => Heap.get?_push_of_some _ w) (Nat.le_refl _) ?_, rfl, q _ (Ie.hok.fresh (Nat.le_refl _))⟩
  have hpr := paired_pickL lz c rel
  exact ⟨by rw [paired_len hpr]; omega, _, 0, hpr, Heap.get?_push_size _ rfl⟩⟩
theorem n_step {lo : Option Expr} {o : Option Int} {c : Int} {k : Nat} {p1 p2 : Pos} (hlo : PO X lo (tFix o)) (ha : PE X a (cV G ow 1 f)) (h0 : (some c : Option Int) ≠ some 0 := by decide) (hK : X.K = G.K := by rfl)
    (hsub : ∀ ov iv, subscripted (.Slice lo none (some (.Constant (.int c) k p1)) p2) false ov iv = operate [ov, iv] (getItem ov iv) := by with_unfolding_all (intros; rfl)) :
    PE X (.Subscript a (.Slice lo none (some (.Constant (.int c) k p1)) p2) pos) (cN G ow fun γ => (f γ).bind fun d => oR (stepLD o c d)) :=
  (pe_stepL ha hlo h0 hsub).impD fun σ H Q ⟨B, γ, I, q⟩ => ⟨B, γ, I, q.bind.imp fun d q v B1 H1 x1 hv => by
    obtain ⟨z, ez, q9⟩ := q.oR
    unfold stepLD at ez
    split at ez
    · cases ez
      obtain ⟨p, us, rfl, h1, h2⟩ := hv.items x1.s
      rw [hK]
      exact ⟨p, us, rfl, .inl h1, fun r hr => q9 r _ B1 _ (x1.trans (.hid x1.s hr)) (x1.h.free hr) (same_none x1.s hr) upd_same (DnAll.of_paired (paired_pickL o c h2))⟩
    · cases ez⟩
end
/-! `is` as a test -/
section
variable {X : Cx} {a b : Expr} {pos : Pos} {G : Gd} {ow : List Nat} {f g : Env → Rs D}
theorem t_isB (ha : PE X a (cV G ow 1 f)) (hb : PE X b (cV G ow 1 g)) : PT X (.Compare a [.Is] [b] pos) (cT G ow (b1 (b2 f g (isB false)) boolO)) := t_cmp (by
  refine ⟨?_⟩; intro B H x y d e z Q s hx hy hz q
  unfold isB at hz
  split at hz
  · cases hz
    exact ⟨_, _, hx.bool, hy.bool, q _ B H (.refl s) (by rw [Bool.false_bne]; exact .bl _)⟩
  · cases hz) op_is_bl (nomark _) ha hb
theorem t_isnotB (ha : PE X a (cV G ow 1 f)) (hb : PE X b (cV G ow 1 g)) : PT X (.Compare a [.IsNot] [b] pos) (cT G ow (b1 (b2 f g (isB true)) boolO)) := t_cmp (by
  refine ⟨?_⟩; intro B H x y d e z Q s hx hy hz q
  unfold isB at hz
  split at hz
  · cases hz
    exact ⟨_, _, hx.bool, hy.bool, q _ B H (.refl s) (by rw [Bool.true_bne]; exact .bl _)⟩
  · cases hz) op_isnot_bl (nomark _) ha hb
theorem t_isN {j : Nat} {p2 : Pos} (ha : PE X a (cV G ow 1 f)) : PT X (.Compare a [.Is] [.Constant .none j p2] pos) (cT G ow (b1 (b1 f fun d => some (.bool (isNoneD d))) boolO)) :=
  (pt_cmp (pc_isN ha) rfl).impD fun σ H Q ⟨B, γ, I, q⟩ => ⟨B, γ, I, q.bind.bind.imp fun d q v B1 H1 x1 hv => by
    obtain ⟨z, ez, q⟩ := q.oR
    obtain ⟨k, ek, q⟩ := q.oR
    cases ez
    cases ek
    exact ⟨_, rfl, by rw [dn_non (hv.flu x1.s)]; exact q B1 H1 x1⟩⟩
theorem t_notN {j : Nat} {p2 : Pos} (ha : PE X a (cV G ow 1 f)) : PT X (.Compare a [.IsNot] [.Constant .none j p2] pos) (cT G ow (b1 (b1 f fun d => some (.bool (!isNoneD d))) boolO)) :=
  (pt_cmp (pc_notN ha) rfl).impD fun σ H Q ⟨B, γ, I, q⟩ => ⟨B, γ, I, q.bind.bind.imp fun d q v B1 H1 x1 hv => by
    obtain ⟨z, ez, q⟩ := q.oR
    obtain ⟨k, ek, q⟩ := q.oR
    cases ez
    cases ek
    exact ⟨_, rfl, by rw [dn_non (hv.flu x1.s)]; exact q B1 H1 x1⟩⟩
end
end DL
set_option Elab.async false
set_option linter.all false
set_option maxRecDepth 100000
set_option maxHeartbeats 4000000
/-! The data layer: list comprehensions with two fors. -/
namespace DL
open PySem PySem.Spec PyProof.Rows L2

/-- an environment that differs from an older one in the block's names only, at a heap that has grown out of the older one -/
theorem EnvR.shift {G : Gd} {ow vs : List Nat} {B0 H0 B2 H2 B' H' : Hp} {σ0 σ' : L2.St} {γ0 γ' : Env} (I0 : EnvR G ow B0 H0 σ0 γ0) (I2 : EnvR G ow B2 H2 σ' γ') (hw : L2.wipe σ' vs = L2.wipe σ0 vs) (hx : G.x = none)
    (hvs : ∀ i ∈ vs, ow.getD i 0 = 0) (hk : ∀ i, i ∉ vs → γ'[i]? = γ0[i]?) (x : Ext B0 H0 B' H') (s : Same B2 B') : EnvR G ow B' H' σ' γ' := by
  have J := I0.mono x
  obtain ⟨own, o1, o2, o3⟩ := J.v
  refine ⟨J.s, J.e, I2.len, (fun t z => by rw [hx] at z; cases z), own, o1, o2, fun i d e => ?_⟩
  by_cases hi : i ∈ vs
  · obtain ⟨_, _, _, p3⟩ := I2.v
    obtain ⟨v, e1, e2⟩ := p3 i d e
    rw [hvs i hi] at e2 ⊢
    exact ⟨v, e1, Dn.mono s e2⟩
  · rw [hk i hi] at e
    obtain ⟨v, e1, e2⟩ := o3 i d e
    refine ⟨v, ?_, e2⟩
    rw [← wipe_out hi (σ := σ'), hw, wipe_out hi]
    exact e1
/-- what a target leaves alone -/
def Kp (vs : List Nat) (t : D → Env → Option Env) : Prop := ∀ d γ γ1, t d γ = some γ1 → ∀ i, i ∉ vs → γ1[i]? = γ[i]?
def KpL (vs : List Nat) (t : List D → Env → Option Env) : Prop := ∀ d γ γ1, t d γ = some γ1 → ∀ i, i ∉ vs → γ1[i]? = γ[i]?
theorem kp_n {vs : List Nat} {j : Nat} (h : j ∈ vs) : Kp vs (tgN j) := fun d γ γ1 e i hi => by
  cases e
  exact List.getElem?_set_ne fun z => hi (by rw [← z]; exact h)
theorem kp_nil {vs : List Nat} : KpL vs tgNil := fun d γ γ1 e i hi => by
  unfold tgNil at e
  split at e
  · cases e; rfl
  · cases e
theorem kp_cons {vs : List Nat} {t : D → Env → Option Env} {u : List D → Env → Option Env} (h1 : Kp vs t) (h2 : KpL vs u) : KpL vs (tgCons t u) := fun d γ γ1 e i hi => by
  unfold tgCons at e
  split at e
  · rename_i a r
    cases ha : t a γ with
    | none => rw [ha] at e; cases e
    | some γ2 =>
      rw [ha] at e
      rw [h2 r γ2 γ1 e i hi, h1 a γ γ2 ha i hi]
  · cases e
theorem kp_t {vs : List Nat} {n : Nat} {u : List D → Env → Option Env} (h : KpL vs u) : Kp vs (tgT n u) := fun d γ γ1 e i hi => by
  unfold tgT at e
  split at e
  · split at e
    · exact h _ γ γ1 e i hi
    · cases e
  · cases e
def compL2 (vs1 : List Nat) (t : D → Env → Option Env) (c : Env → Rs Bool) (fi1 : Env → Rs (List D)) (t1 : D → Env → Option Env) (c1 : Env → Rs Bool) (f : Env → Rs D) : List D → Env → Rs (List D)
  | [], _ => .ok []
  | d :: ds, γ => match t d γ with
    | none => .no
    | some γ1 => (noEr (c γ1)).bind fun b => if b = true then (noEr (fi1 γ1)).bind fun es => (compL t1 c1 f es (wipeE γ1 vs1)).bind fun ys => (compL2 vs1 t c fi1 t1 c1 f ds γ).bind fun zs => .ok (ys ++ zs)
      else compL2 vs1 t c fi1 t1 c1 f ds γ
theorem noEr_bd {α β : Type} {x : Rs α} {f : α → Rs β} {y : β} (h : (noEr x).bind f = .ok y) : ∃ a, x = .ok a ∧ f a = .ok y := noEr_bind h
theorem rs_bd {α β : Type} {x : Rs α} {f : α → Rs β} {y : β} (h : x.bind f = .ok y) : ∃ a, x = .ok a ∧ f a = .ok y := by
  cases x with
  | ok a => exact ⟨a, rfl, h⟩
  | er _ _ => cases h
  | no => cases h
variable {vs1 : List Nat} {t t1 : D → Env → Option Env} {c c1 : Env → Rs Bool} {fi1 : Env → Rs (List D)} {f : Env → Rs D}
theorem compL2_cons {d : D} {ds rs : List D} {γ : Env} (h : compL2 vs1 t c fi1 t1 c1 f (d :: ds) γ = .ok rs) :
    ∃ γ1, t d γ = some γ1 ∧ ∃ b, c γ1 = .ok b ∧ ((b = true ∧ ∃ es ys zs, fi1 γ1 = .ok es ∧ compL t1 c1 f es (wipeE γ1 vs1) = .ok ys ∧ compL2 vs1 t c fi1 t1 c1 f ds γ = .ok zs ∧ rs = ys ++ zs) ∨ (b = false ∧ compL2 vs1 t c fi1 t1 c1 f ds γ = .ok rs)) := by
  unfold compL2 at h
  split at h
  · cases h
  · rename_i γ1 ht
    refine ⟨γ1, ht, ?_⟩
    obtain ⟨b, e1, h⟩ := noEr_bd h
    refine ⟨b, e1, ?_⟩
    cases b with
    | false => exact .inr ⟨rfl, h⟩
    | true =>
      rw [if_pos rfl] at h
      obtain ⟨es, e2, h⟩ := noEr_bd h
      obtain ⟨ys, e3, h⟩ := rs_bd h
      obtain ⟨zs, e4, h⟩ := rs_bd h
      cases h
      exact .inl ⟨rfl, es, ys, zs, e2, e3, e4, rfl⟩
theorem compL2_er {n : Str} {fs : List (Str × D)} {γ : Env} : ∀ {ds : List D}, compL2 vs1 t c fi1 t1 c1 f ds γ ≠ .er n fs
  | [] => fun z => nomatch z
  | d :: ds => by
    unfold compL2
    cases t d γ with
    | none => exact fun z => nomatch z
    | some γ1 =>
      dsimp only
      cases hc : noEr (c γ1) with
      | er _ _ => exact absurd hc noEr_er
      | no => exact fun z => nomatch z
      | ok b =>
        cases b with
        | false => exact compL2_er
        | true =>
          show (noEr (fi1 γ1)).bind _ ≠ _
          cases hf : noEr (fi1 γ1) with
          | er _ _ => exact absurd hf noEr_er
          | no => exact fun z => nomatch z
          | ok es =>
            show (compL t1 c1 f es (wipeE γ1 vs1)).bind _ ≠ _
            cases hr : compL t1 c1 f es (wipeE γ1 vs1) with
            | er _ _ => exact absurd hr compL_er
            | no => exact fun z => nomatch z
            | ok ys =>
              show (compL2 vs1 t c fi1 t1 c1 f ds γ).bind _ ≠ _
              cases hz : compL2 vs1 t c fi1 t1 c1 f ds γ with
              | er _ _ => exact absurd hz compL2_er
              | no => exact fun z => nomatch z
              | ok zs => exact fun z => nomatch z
def compR2 (vs vs1 : List Nat) (t : D → Env → Option Env) (c : Env → Rs Bool) (fi1 : Env → Rs (List D)) (t1 : D → Env → Option Env) (c1 : Env → Rs Bool) (f : Env → Rs D) (ds : List D) (γ : Env) : Rs (List D) := (compL2 vs1 t c fi1 t1 c1 f ds (wipeE γ vs)).bind fun zs => oR (szL zs)
section
variable {X : Cx} {elt tg iter tg1 iter1 : Expr} {ifs ifs1 : List Expr} {pos : Pos} {G : Gd} {ow owL vs : List Nat} {fi : Env → Rs (List D)}
theorem lc2_imp (hg : G.x = none) (hvs : ∀ i ∈ vs, ow.getD i 0 = 0) (hk : Kp vs t) {σ : L2.St} {H : Hp} {Q : VK} (h : cN G ow (fun γ => (fi γ).bind fun ds => compR2 vs vs1 t c fi1 t1 c1 f ds γ) σ H Q) :
    tLc2 (cI G ow fi) (cG G.mute ow vs t) (cT G.mute ow c) (cI G.mute ow fi1) (cG G.mute ow vs1 t1) (cT G.mute ow c1) (cV G.mute ow 0 f) vs vs1 σ H Q := by
  obtain ⟨B, γ, I, q⟩ := h
  refine ⟨B, γ, I, q.bind.imp fun ds q J B1 H1 x1 jw => fun Da hDa => ?_⟩
  unfold compR2 at q
  cases hr : compL2 vs1 t c fi1 t1 c1 f ds (wipeE γ vs) with
  | er _ _ => exact absurd hr compL2_er
  | no => rw [hr] at q; exact q.elim
  | ok zs =>
    rw [hr] at q
    obtain ⟨zs', ez, q9⟩ := RsP.oR (show RsP G σ B H (oR (szL zs)) _ from q)
    obtain ⟨hl, e9⟩ := szL_some ez
    subst e9
    have I0 : EnvR G.mute ow B1 H1 (L2.wipe σ vs) (wipeE γ vs) := ((I.mono x1).mute).wipe hg vs
    refine ⟨fun i m H' => i ≤ ds.length ∧ m = ds.length - i ∧ ∃ B' dn rs acc, Ext B1 H1 B' H' ∧ B' Da = none ∧ H' Da = some (.lst acc) ∧ DnAll G.K B' acc dn ∧ compL2 vs1 t c fi1 t1 c1 f (ds.drop i) (wipeE γ vs) = .ok rs ∧ dn ++ rs = zs',
      ⟨ds.length, Nat.zero_le _, by omega, B1, [], zs', [], .hid x1.s hDa, same_none x1.s hDa, upd_same, .nil, hr, rfl⟩, fun i m H' hW => ?_⟩
    obtain ⟨hi, rfl, B', dn, rs, acc, xx, hb, hl', hd, hc, he⟩ := hW
    obtain ⟨j1, j2⟩ := jw B' H' xx.b xx.s i
    by_cases hlt : i < ds.length
    · obtain ⟨jg, jy⟩ := j1 _ (List.getElem?_eq_getElem hlt)
      refine .inr ⟨jg, fun H2 => ∃ B2 dn rs acc, Ext B1 H1 B2 H2 ∧ B2 Da = none ∧ H2 Da = some (.lst acc) ∧ DnAll G.K B2 acc dn ∧ compL2 vs1 t c fi1 t1 c1 f (ds.drop (i + 1)) (wipeE γ vs) = .ok rs ∧ dn ++ rs = zs', fun H2 hN => ⟨ds.length - (i + 1), by omega, by omega, rfl, hN⟩, fun x H2 hy => ?_⟩
      obtain ⟨B2, x2, hx⟩ := jy x H2 hy
      rw [List.drop_eq_getElem_cons hlt] at hc
      obtain ⟨γ1, ht, b, hcb, hrest⟩ := compL2_cons hc
      have keepD : ∀ {B3 H3 : Hp}, Ext B' H' B3 H3 → B3 Da = none ∧ H3 Da = some (.lst acc) := fun y => ⟨y.n Da hb ⟨_, hl', fun _ z => nomatch z⟩, y.h _ _ hl'⟩
      have hkeep := hk _ _ _ ht
      refine ⟨B2, wipeE γ vs, ds[i], γ1, I0.mono (xx.trans x2), hx, ht, fun σ3 hw3 I3 => ⟨hw3.trans (wipe_wipe _ _), B2, γ1, I3, ?_⟩⟩
      rw [hcb]
      intro B3 H3 x3
      rcases hrest with ⟨rfl, es, ys, zs2, hes, hys, hzs, rfl⟩ | ⟨rfl, hy2⟩
      · rw [if_pos rfl]
        refine ⟨B3, γ1, I3.mono x3, ?_⟩
        rw [hes]
        intro J1 B4 H4 x4 jw1
        obtain ⟨k1, k2⟩ := keepD ((x2.trans x3).trans x4)
        refine ⟨fun j k H' => j ≤ es.length ∧ k = es.length - j ∧ ∃ B' dn' rs' acc', Ext B1 H1 B' H' ∧ Same B4 B' ∧ B' Da = none ∧ H' Da = some (.lst acc') ∧ DnAll G.K B' acc' dn' ∧ compL t1 c1 f (es.drop j) (wipeE γ1 vs1) = .ok rs' ∧ dn' ++ (rs' ++ zs2) = zs',
          ⟨es.length, Nat.zero_le _, by omega, B4, dn, ys, acc, xx.trans ((x2.trans x3).trans x4), .refl _, k1, k2, hd.mono ((x2.trans x3).trans x4).b, hys, he⟩, fun j k H5 hW => ?_⟩
        obtain ⟨hj, rfl, B5, dn5, rs5, acc5, xx5, s5, hb5, hl5, hd5, hc5, he5⟩ := hW
        obtain ⟨i1, i2⟩ := jw1 B5 H5 s5 xx5.s j
        by_cases hlt1 : j < es.length
        · obtain ⟨ig, iy⟩ := i1 _ (List.getElem?_eq_getElem hlt1)
          refine .inr ⟨ig, fun H6 => ∃ B' dn' rs' acc', Ext B1 H1 B' H6 ∧ Same B4 B' ∧ B' Da = none ∧ H6 Da = some (.lst acc') ∧ DnAll G.K B' acc' dn' ∧ compL t1 c1 f (es.drop (j + 1)) (wipeE γ1 vs1) = .ok rs' ∧ dn' ++ (rs' ++ zs2) = zs', fun H6 hN => ⟨es.length - (j + 1), by omega, by omega, rfl, hN⟩, fun x6 H6 hy6 => ?_⟩
          obtain ⟨B6, x56, hx6⟩ := iy x6 H6 hy6
          rw [List.drop_eq_getElem_cons hlt1] at hc5
          obtain ⟨γ2, ht1, b1, hcb1, hrest1⟩ := compL_cons hc5
          have keep5 : ∀ {B7 H7 : Hp}, Ext B5 H5 B7 H7 → B7 Da = none ∧ H7 Da = some (.lst acc5) := fun y => ⟨y.n Da hb5 ⟨_, hl5, fun _ z => nomatch z⟩, y.h _ _ hl5⟩
          have I6 : EnvR G.mute ow B6 H6 σ3 γ1 := I0.shift I3 hw3 hg hvs hkeep (xx5.trans x56) (((x3.b.trans x4.b).trans s5).trans x56.b)
          refine ⟨B6, wipeE γ1 vs1, es[j], γ2, I6.wipe hg vs1, hx6, ht1, fun σ7 hw7 I7 => ⟨hw7.trans (wipe_wipe _ _), B6, γ2, I7, ?_⟩⟩
          rw [hcb1]
          intro B7 H7 x7
          rcases hrest1 with ⟨rfl, y, ys', hy1, hy2, rfl⟩ | ⟨rfl, hy2⟩
          · rw [if_pos rfl]
            refine ⟨B7, γ2, I7.mono x7, ?_⟩
            rw [hy1]
            intro v B8 H8 x8 hv
            obtain ⟨p1, p2⟩ := keep5 ((x56.trans x7).trans x8)
            refine ⟨acc5, p2, ?_, B8, dn5 ++ [y], ys', acc5 ++ [v], (xx5.trans ((x56.trans x7).trans x8)).wrh hDa p1, s5.trans ((x56.trans x7).trans x8).b, p1, upd_same, (hd5.mono ((x56.trans x7).trans x8).b).append (.cons hv .nil), hy2, ?_⟩
            · rw [hd5.length]
              refine lim_lt ?_
              have : zs'.length = dn5.length + (ys'.length + 1 + zs2.length) := by rw [← he5, List.length_append, List.length_append, List.length_cons]
              omega
            · rw [List.append_assoc]; exact he5
          · rw [if_neg (by decide)]
            obtain ⟨p1, p2⟩ := keep5 (x56.trans x7)
            exact ⟨B7, dn5, rs5, acc5, xx5.trans (x56.trans x7), s5.trans (x56.trans x7).b, p1, p2, hd5.mono (x56.trans x7).b, hy2, he5⟩
        · refine .inl ⟨i2 (by omega), ?_⟩
          rw [List.drop_eq_nil_of_le (by omega)] at hc5
          cases hc5
          exact ⟨B5, dn5, zs2, acc5, xx5, hb5, hl5, hd5, hzs, he5⟩
      · rw [if_neg (by decide)]
        obtain ⟨k1, k2⟩ := keepD (x2.trans x3)
        exact ⟨B3, dn, rs, acc, xx.trans (x2.trans x3), k1, k2, hd.mono (x2.trans x3).b, hy2, he⟩
    · refine .inl ⟨j2 (by omega), ?_⟩
      rw [List.drop_eq_nil_of_le (by omega)] at hc
      cases hc
      rw [List.append_nil] at he
      subst he
      exact q9 Da acc B' H' (x1.trans xx) (x1.h.free hDa) hb hl' hd
variable {scope : Scope} {own : List (Str × Nat)}
@[simp] abbrev nLcc (vs vs1 : List Nat) (fi : Env → Rs (List D)) (t : D → Env → Option Env) (c : Env → Rs Bool) (fi1 : Env → Rs (List D)) (t1 : D → Env → Option Env) (c1 : Env → Rs Bool) (f : Env → Rs D) : Env → Rs (List D) := fun γ => (fi γ).bind fun ds => compR2 vs vs1 t c fi1 t1 c1 f ds γ
theorem n_lcc (own : List (Str × Nat)) (vs1 : List Nat) (hN : X.N.Nodup) (hkp : Kp (own.map (·.2)) t) (hi : PI X tg iter (cI G ow fi)) (ok : BlkOk X.N X.env.scope scope own)
    (hg : ∀ (s : Shared) (H : Hp) (C : Addr) (cl : List (Str × Addr)) (fp : List Addr), PG (X.blk s H scope (compEnvC scope cl C X.env) fp) tg (cG G.mute ow (own.map (·.2)) t)) (ht : ∀ (s : Shared) (H : Hp) (C : Addr) (cl : List (Str × Addr)) (fp : List Addr), PTs (X.blk s H scope (compEnvC scope cl C X.env) fp) ifs (cT G.mute ow c))
    (hi1 : ∀ (s : Shared) (H : Hp) (C : Addr) (cl : List (Str × Addr)) (fp : List Addr), PI (X.blk s H scope (compEnvC scope cl C X.env) fp) tg1 iter1 (cI G.mute ow fi1))
    (hg1 : ∀ (s : Shared) (H : Hp) (C : Addr) (cl : List (Str × Addr)) (fp : List Addr), PG (X.blk s H scope (compEnvC scope cl C X.env) fp) tg1 (cG G.mute ow vs1 t1)) (ht1 : ∀ (s : Shared) (H : Hp) (C : Addr) (cl : List (Str × Addr)) (fp : List Addr), PTs (X.blk s H scope (compEnvC scope cl C X.env) fp) ifs1 (cT G.mute ow c1))
    (he : ∀ (s : Shared) (H : Hp) (C : Addr) (cl : List (Str × Addr)) (fp : List Addr), PE (X.blk s H scope (compEnvC scope cl C X.env) fp) elt (cV G.mute ow 0 f)) (hv : ∀ i ∈ vs1, i ∈ own.map (·.2) := by decide) (hvs : ∀ i ∈ own.map (·.2), ow.getD i 0 = 0 := by decide) (hc : X.calm = true := by rfl) (hx : G.x = none := by rfl) (hs : ∀ x, foldedSetIterable iter X.env x = pure x := by intro _; rfl) (hs1 : ∀ env x, foldedSetIterable iter1 env x = pure x := by intro _ _; rfl) :
    PE X (.ListComp elt [⟨tg, iter, ifs, 0⟩, ⟨tg1, iter1, ifs1, 0⟩] scope pos) (cN G ow (nLcc (own.map (·.2)) vs1 fi t c fi1 t1 c1 f)) := (pe_lc2 hc hN hi ok hv hg ht hi1 hg1 ht1 he hs hs1).impD fun σ H Q q => lc2_imp hx hvs hkp q
theorem s_setLcc {ow' : List Nat} {y : Str} {py spos : Pos} (i : Nat) (own : List (Str × Nat)) (vs1 : List Nat) (hN : X.N.Nodup) (hkp : Kp (own.map (·.2)) t) (hi : PI X tg iter (cI G ow fi)) (ok : BlkOk X.N X.env.scope scope own)
    (hg : ∀ (s : Shared) (H : Hp) (C : Addr) (cl : List (Str × Addr)) (fp : List Addr), PG (X.blk s H scope (compEnvC scope cl C X.env) fp) tg (cG G.mute ow (own.map (·.2)) t)) (ht : ∀ (s : Shared) (H : Hp) (C : Addr) (cl : List (Str × Addr)) (fp : List Addr), PTs (X.blk s H scope (compEnvC scope cl C X.env) fp) ifs (cT G.mute ow c))
    (hi1 : ∀ (s : Shared) (H : Hp) (C : Addr) (cl : List (Str × Addr)) (fp : List Addr), PI (X.blk s H scope (compEnvC scope cl C X.env) fp) tg1 iter1 (cI G.mute ow fi1))
    (hg1 : ∀ (s : Shared) (H : Hp) (C : Addr) (cl : List (Str × Addr)) (fp : List Addr), PG (X.blk s H scope (compEnvC scope cl C X.env) fp) tg1 (cG G.mute ow vs1 t1)) (ht1 : ∀ (s : Shared) (H : Hp) (C : Addr) (cl : List (Str × Addr)) (fp : List Addr), PTs (X.blk s H scope (compEnvC scope cl C X.env) fp) ifs1 (cT G.mute ow c1))
    (he : ∀ (s : Shared) (H : Hp) (C : Addr) (cl : List (Str × Addr)) (fp : List Addr), PE (X.blk s H scope (compEnvC scope cl C X.env) fp) elt (cV G.mute ow 0 f)) (hsw : swapsWith (.ListComp elt [⟨tg, iter, ifs, 0⟩, ⟨tg1, iter1, ifs1, 0⟩] scope pos) (some (.Name y py)) spos.line X.env = pure true)
    (hw : ow.set i 0 = ow' := by rfl) (hy : X.N[i]? = some y := by rfl) (hyl : X.env.scope.names.lookup y = some .local := by rfl) (hv : ∀ i ∈ vs1, i ∈ own.map (·.2) := by decide) (hvs : ∀ i ∈ own.map (·.2), ow.getD i 0 = 0 := by decide) (hc : X.calm = true := by rfl) (hx : G.x = none := by rfl) (hs : ∀ x, foldedSetIterable iter X.env x = pure x := by intro _; rfl) (hs1 : ∀ env x, foldedSetIterable iter1 env x = pure x := by intro _ _; rfl) :
    PS X (.Assign [.Name y py] (.ListComp elt [⟨tg, iter, ifs, 0⟩, ⟨tg1, iter1, ifs1, 0⟩] scope pos) spos) (cS G ow ow' owL fun γ => liftS (nLcc (own.map (·.2)) vs1 fi t c fi1 t1 c1 f γ) γ fun ds => .nx (γ.set i (some (.list ds)))) :=
  (ps_setLc2 hc hN hy hyl hsw hi ok hv hg ht hi1 hg1 ht1 he hs hs1).impD fun J σ H ⟨B, γ, I, q⟩ => lc2_imp hx hvs hkp ⟨B, γ, I, (q.lift I).imp fun ds q p xs B1 H1 x1 hp hb hl hd => by
    refine q (upd B1 p (.lst xs)) _ H1 (x1.b.trans (same_new hb)) ?_
    rw [← hw]
    exact (I.mono (x1.shown hp hb hl)).set i hx (.lst (.inl upd_same) (hd.mono (same_new hb)))⟩
theorem s_newLcc {ow' : List Nat} {y : Str} {py spos : Pos} (i : Nat) (own : List (Str × Nat)) (vs1 : List Nat) (hN : X.N.Nodup) (hkp : Kp (own.map (·.2)) t) (hi : PI X tg iter (cI G ow fi)) (ok : BlkOk X.N X.env.scope scope own)
    (hg : ∀ (s : Shared) (H : Hp) (C : Addr) (cl : List (Str × Addr)) (fp : List Addr), PG (X.blk s H scope (compEnvC scope cl C X.env) fp) tg (cG G.mute ow (own.map (·.2)) t)) (ht : ∀ (s : Shared) (H : Hp) (C : Addr) (cl : List (Str × Addr)) (fp : List Addr), PTs (X.blk s H scope (compEnvC scope cl C X.env) fp) ifs (cT G.mute ow c))
    (hi1 : ∀ (s : Shared) (H : Hp) (C : Addr) (cl : List (Str × Addr)) (fp : List Addr), PI (X.blk s H scope (compEnvC scope cl C X.env) fp) tg1 iter1 (cI G.mute ow fi1))
    (hg1 : ∀ (s : Shared) (H : Hp) (C : Addr) (cl : List (Str × Addr)) (fp : List Addr), PG (X.blk s H scope (compEnvC scope cl C X.env) fp) tg1 (cG G.mute ow vs1 t1)) (ht1 : ∀ (s : Shared) (H : Hp) (C : Addr) (cl : List (Str × Addr)) (fp : List Addr), PTs (X.blk s H scope (compEnvC scope cl C X.env) fp) ifs1 (cT G.mute ow c1))
    (he : ∀ (s : Shared) (H : Hp) (C : Addr) (cl : List (Str × Addr)) (fp : List Addr), PE (X.blk s H scope (compEnvC scope cl C X.env) fp) elt (cV G.mute ow 0 f)) (hsw : swapsWith (.ListComp elt [⟨tg, iter, ifs, 0⟩, ⟨tg1, iter1, ifs1, 0⟩] scope pos) (some (.Name y py)) spos.line X.env = pure true)
    (hw : ow.set i 1 = ow' := by rfl) (hlt : i < ow.length := by decide) (hy : X.N[i]? = some y := by rfl) (hyl : X.env.scope.names.lookup y = some .local := by rfl) (hv : ∀ i ∈ vs1, i ∈ own.map (·.2) := by decide) (hvs : ∀ i ∈ own.map (·.2), ow.getD i 0 = 0 := by decide) (hc : X.calm = true := by rfl) (hx : G.x = none := by rfl) (hs : ∀ x, foldedSetIterable iter X.env x = pure x := by intro _; rfl) (hs1 : ∀ env x, foldedSetIterable iter1 env x = pure x := by intro _ _; rfl) :
    PS X (.Assign [.Name y py] (.ListComp elt [⟨tg, iter, ifs, 0⟩, ⟨tg1, iter1, ifs1, 0⟩] scope pos) spos) (cS G ow ow' owL fun γ => liftS (nLcc (own.map (·.2)) vs1 fi t c fi1 t1 c1 f γ) γ fun ds => .nx (γ.set i (some (.list ds)))) :=
  (ps_setLc2 hc hN hy hyl hsw hi ok hv hg ht hi1 hg1 ht1 he hs hs1).impD fun J σ H ⟨B, γ, I, q⟩ => lc2_imp hx hvs hkp ⟨B, γ, I, (q.lift I).imp fun ds q p xs B1 H1 x1 hp hb hl hd => by
    refine q B1 _ H1 x1.b ?_
    rw [← hw]
    exact I.setN i hx hlt x1 hp hb hl hd⟩
end
end DL
set_option Elab.async false
set_option linter.all false
set_option maxRecDepth 100000
set_option maxHeartbeats 4000000
/-! The data layer: sorted(t), t a tuple of ints. -/
namespace DL
open PySem PySem.Spec PyProof.Rows L2
section
variable {P : Program} {wl : World} {Ar : Around} {Er : Value → Shared → Prop} {st : Shared}
/-- the heap behind the gathering of these -/
def hGat (h : Heap) (us : List Value) : Heap := (h.push (seqObj "list" #[] 0)).update h.objs.size (Obj.mapSeq (· ++ us.toArray))
theorem gather_tup {b : Addr} {us : List Value} {R : List Value → Shared → Prop} (ht : IsTup st.heap b us.toArray) (hz : us.length ≤ sizeLine) (hR : R us { st with heap := hGat st.heap us }) :
    wpAny (model P wl) Ar (collect (.ref b)) R Er st := by
  obtain ⟨ob, g1, g2, k, g3⟩ := id ht
  have g4 : (st.heap.push (seqObj "list" #[] 0)).get? b = some ob := Heap.get?_push_of_some _ g1
  have g5 : (Value.type "tuple" == Value.type "tuple") = true := by rfl
  have g6 : (#[] ++ us.toArray).size ≤ sizeLine + 1 := by
    rw [Array.size_append, List.size_toArray]
    show 0 + us.length ≤ _
    omega
  have g7 : ((#[] : Array Value) ++ us.toArray).toList = us := by simp
  unfold collect
  refine wpAny_bind (wpAny_runValue (codeAny_builtin entry_proto_collect' (wpAny_bind (wpAny_newList (wpAny_pure ⟨Code.quiet_builtin _ (by decide +kernel), codeAny_builtin entry_list_iadd' ?_⟩)))))
  change wpAny _ _ (Builtin.List.listExtendWith (.ref st.heap.objs.size) (.ref b) (.ref st.heap.objs.size)) _ _ { st with heap := st.heap.push (seqObj "list" #[] 0) }
  unfold Builtin.List.listExtendWith
  refine wpAny_bind (wpAny_typeOf (T := "tuple") ⟨ob, g4, g2⟩ ?_)
  rw [if_pos (by rw [g5]; simp)]
  refine wpAny_bind (listItems_at g4 g3 ?_)
  refine wpAny_bind (listItems_at (n := 0) (xs := #[]) (Heap.get?_push_size _ rfl) rfl ?_)
  rw [if_neg (by simp)]
  refine wpAny_bind (listUpdate_at (n := 0) (xs := #[]) (Heap.get?_push_size _ rfl) rfl ?_ (Nat.zero_le _) g6)
  refine wpAny_pure ?_
  change wpAny (model P wl) Ar (load st.heap.objs.size >>= fun o => match o.data with
      | .seq ys _ => pure ys.toList
      | _ => unsupported "internal:collect") R Er { st with heap := hGat st.heap us }
  have g8 : wpAny (model P wl) Ar (pure ((#[] : Array Value) ++ us.toArray).toList) R Er { st with heap := hGat st.heap us } := by
    rw [g7]
    exact wpAny_pure hR
  exact wpAny_bind (wpAny_load (get?_update_seq (Heap.get?_push_size _ rfl) _) g8)
theorem sorted_tupO {b : Addr} {us : List Value} {lv : Value → Value → Bool} {R : Value → Shared → Prop} (O : SrtO.Swo lv) (ht : IsTup st.heap b us.toArray) (hz : us.length ≤ sizeLine)
    (hS : 2 ≤ us.length → ∀ (g : Heap) (a : Addr), SrtO.SortableO P wl Ar.in1.in1 { st with heap := g } a us lv)
    (hR : ∀ os : List Value, SrtO.Srtd lv os → SrtO.Stb lv os us → R (.ref (st.heap.objs.size + 1)) { st with heap := sortedAll st.heap us os.toArray }) :
    wpAny (model P wl) Ar (call (.builtin "sorted") [.ref b]) R Er st := by
  have k1 : (hGat st.heap us).objs.size = st.heap.objs.size + 1 := by
    rw [hGat, Heap.size_update, size_push']
  have k2 : ((hGat st.heap us).push (seqObj "list" us.toArray 0)).get? (st.heap.objs.size + 1) = some (seqObj "list" us.toArray 0) := by
    exact k1 ▸ Heap.get?_push_size _ rfl
  refine Calls.call_function_entry kind_sorted plain_sorted entry_sorted (args_sorted1 _) (wpAny_bind (m := checkCount "sorted" 1 1 _) (wpAny_pure (wpAny_bind (gather_tup ht hz (wpAny_bind (wpAny_newList ?_ hz))))))
  change wpAny _ _ _ _ _ { st with heap := (hGat st.heap us).push (seqObj "list" us.toArray 0) }
  rw [k1]
  refine wpAny_bind (wpAny_holding (wpAny_call_entry slot_list_sort ⟨_, k2, rfl⟩ entry_list_sort ?_ (args_list_sort _)))
  refine SrtO.list_sort_ord O k2 hz (fun h2 => hS h2 _ _) fun os p1 p2 => ⟨_, rfl, ?_⟩
  exact wpAny_pure ⟨_, rfl, hR os p1 p2⟩
end
section
variable {X : Cx}
def rSortedTI (K : PySem.W.Frag) : List V → Hp → VK → Prop := fun vs H Q => ∃ (b : Addr) (ns : List Int), vs = [V.ref b] ∧ SqT K H b (ns.map V.int) ∧ ∀ (ms : List Int) (r : Addr), ms.Perm ns → ms.Pairwise (· ≤ ·) → H r = none → Q (.ref r) (upd H r (.lst (ms.map V.int)))
theorem cr_sortedTI : CallR X (.builtin "sorted") (rSortedTI X.K) := fun pins s σ H vs us Q I rel ⟨b, ns, ev, hb, q⟩ => by
  subst ev
  obtain ⟨its, rv, ht, hz⟩ := I.tuple hb
  have hi := rv.ints
  rw [Vals.ref1 rel]
  refine sorted_tupO SrtO.swo_int ht (by rw [← rv.length]; exact hz) (fun h2 _ _ => SrtO.ints_sortable hi h2) fun os p1 p2 => ?_
  obtain ⟨k1, k2, k3⟩ := SrtO.ints_out hi p1 p2
  obtain ⟨ep, hat⟩ := PyProof.Rows.sortedAll_at s.heap its os.toArray
  have hle : ((os.map SrtO.iv).map V.int).length ≤ sizeLine := by
    rw [List.length_map] at hz ⊢
    rw [k2.length_eq]
    exact hz
  refine ⟨.ref _, upd H (s.heap.objs.size + 1) (.lst ((os.map SrtO.iv).map V.int)), ?_, rfl, q _ _ k2 k3 (I.hok.fresh (Nat.le_succ _))⟩
  exact I.laid (t' := s.toks) (fun _ _ => PyProof.Rows.sortedAll_old) (Nat.le_succ _) ⟨hle, os, ep, vals_of_ints k1, hat⟩
def rSortedA (K : PySem.W.Frag) : List V → Hp → VK → Prop := fun vs H Q => rSortedI K vs H Q ∨ rSortedTI K vs H Q
theorem cr_sortedA : CallR X (.builtin "sorted") (rSortedA X.K) := fun pins s σ H vs us Q I rel h => by
  rcases h with h | h
  · exact cr_sortedI pins s σ H vs us Q I rel h
  · exact cr_sortedTI pins s σ H vs us Q I rel h
end
/-- sorted(x): ints of a list or of a tuple -/
def srtA : List D → Option (List D)
  | [.list ds] => (intsO ds).map fun ns => (srtI ns).map PyData.int
  | [.tuple ds] => (intsO ds).map fun ns => (srtI ns).map PyData.int
  | _ => none
section
variable {X : Cx} {e : Expr} {es : List Expr} {p pos : Pos} {G : Gd} {ow : List Nat} {fs : Env → Rs (List D)}
theorem n_sortedA (hm : X.mg "sorted" = none) (ha : PA X (e :: es) (cA G ow 1 fs)) (hg : Gl X "sorted" := by rfl) (he : starEach (e :: es) X.env = (false, eval e X.env) :: starEach es X.env := by rfl) (hpl : (backTo pos (starEach es X.env)).any (·.1) = false := by rfl) (hK : X.K = G.K := by rfl) :
    PE X (.Call (.Name "sorted" p) (e :: es) [] pos) (cN G ow fun γ => (fs γ).bind fun ds => oR (srtA ds)) :=
  (pe_callB (hK ▸ cr_sortedA) hg hm (by decide +kernel) ha (by decide) (by decide) he hpl).impD fun σ H Q ⟨B, γ, I, q⟩ => ⟨B, γ, I, q.bind.imp fun ds q vs B1 H1 x1 hvs => by
    obtain ⟨z, ez, q⟩ := q.oR
    have fin : ∀ ns : List Int, z = (srtI ns).map PyData.int → ∀ (ns' : List Int) (r : Addr), ns'.Perm ns → ns'.Pairwise (· ≤ ·) → H1 r = none → Q (.ref r) (upd H1 r (.lst (ns'.map V.int))) := fun ns e ns' r hp hs hr => by
      have e9 : ns' = srtI ns := sorted_uniq (hp.trans (srtI_perm ns).symm) hs (srtI_sorted ns)
      rw [e9]
      subst e
      exact q r _ B1 _ (x1.trans (.hid x1.s hr)) (x1.h.free hr) (same_none x1.s hr) upd_same (DnAll.of_ints _)
    unfold srtA at ez
    split at ez
    · rename_i es'
      cases hi : intsO es' with
      | none => rw [hi] at ez; cases ez
      | some ns =>
        rw [hi] at ez
        cases ez
        cases hvs with
        | cons h t =>
          cases t
          obtain ⟨p', us, rfl, h1, h2⟩ := DnF.items x1.s h
          rw [ints_of h2 hi] at h1
          exact .inl ⟨p', ns, rfl, .inl h1, fin ns rfl⟩
    · rename_i es'
      cases hi : intsO es' with
      | none => rw [hi] at ez; cases ez
      | some ns =>
        rw [hi] at ez
        cases ez
        cases hvs with
        | cons h t =>
          cases t
          obtain ⟨p', us, rfl, h1, h2⟩ := DnF.tups x1.s h
          rw [intsO_some hi] at h2
          rw [DnAll.ints h2] at h1
          exact .inr ⟨p', ns, rfl, h1, fin ns rfl⟩
    · cases ez⟩
end
end DL
set_option Elab.async false
set_option linter.all false
set_option maxRecDepth 100000
set_option maxHeartbeats 4000000
/-! The data layer: dicts of a def's own. -/
namespace DL
open PySem PySem.Spec PyProof.Rows L2

section
variable {G : Gd} {ow : List Nat} {B H B' H' : Hp} {σ : L2.St} {γ : Env}
/-- a new object of its own in slot i -/
theorem EnvR.setO (I : EnvR G ow B H σ γ) (i : Nat) (hx : G.x = none) (hi : i < ow.length) {k : Nat} {p : Addr} {d : D} (x : Ext B H B' H') (hp : H p = none) (hb : B' p = none) (hl : NT H' p) (h : SR G.K (fun a => a = p) B' H' k (.ref p) d) :
    EnvR G (ow.set i k) B' H' (σ.set i (some (.ref p))) (γ.set i (some d)) := by
  have I' := I.mono x
  obtain ⟨own0, g1, g2, g3⟩ := I.v
  have hG : G.H p = none := by
    cases q : G.H p with
    | none => rfl
    | some o => rw [I.e.h p o q] at hp; cases hp
  have hne : ∀ j a, own0 j a → a ≠ p := fun j a hj e => by
    subst e
    exact absurd hp (g1 j a hj).2.2.ne
  refine ⟨I'.s, I'.e, by rw [List.length_set, List.length_set, I'.len], (fun t z => by rw [hx] at z; cases z), fun j a => if j = i then a = p else own0 j a, fun j a hj => ?_, fun j l a hj hk => ?_, fun j e q => ?_⟩
  · dsimp only at hj
    by_cases z : j = i
    · rw [if_pos z] at hj
      subst hj
      exact ⟨hb, hG, hl⟩
    · rw [if_neg z] at hj
      obtain ⟨c1, c2, c3⟩ := g1 j a hj
      exact ⟨x.n a c1 c3, c2, c3.mono x.h⟩
  · dsimp only at hj hk
    by_cases z : j = i <;> by_cases w : l = i
    · rw [z, w]
    · rw [if_pos z] at hj
      rw [if_neg w] at hk
      exact absurd hj (hne l a hk)
    · rw [if_neg z] at hj
      rw [if_pos w] at hk
      exact absurd hk (hne j a hj)
    · rw [if_neg z] at hj
      rw [if_neg w] at hk
      exact g2 j l a hj hk
  · by_cases z : j = i
    · subst z
      have hj : j < γ.length := by
        by_cases y : j < γ.length
        · exact y
        · rw [List.getElem?_eq_none (by rw [List.length_set]; omega)] at q; cases q
      rw [List.getElem?_set_self hj] at q
      cases q
      refine ⟨.ref p, List.getElem?_set_self (by rw [← I.len]; exact hj), ?_⟩
      rw [ow_set_self _ _ _ (.inl hi)]
      exact h.monoB (.refl _) fun a e => by dsimp only; rw [if_pos rfl]; exact e
    · rw [List.getElem?_set_ne (Ne.symm z)] at q
      obtain ⟨v, e1, r⟩ := g3 j e q
      refine ⟨v, by rw [List.getElem?_set_ne (Ne.symm z)]; exact e1, ?_⟩
      rw [ow_set_ne _ _ z]
      exact (r.mono x).monoB (.refl _) fun a ha => by dsimp only; rw [if_neg z]; exact ha
/-- the object of slot i, and writing it -/
theorem EnvR.wrO (I : EnvR G ow B H σ γ) {i k : Nat} {d : D} (hx : G.x = none) (hk : ow.getD i 0 = k) (h34 : k = 3 ∨ k = 4) (hg : γ[i]? = some (some d)) :
    ∃ p, σ[i]? = some (some (.ref p)) ∧ B p = none ∧ SR G.K (fun a => a = p) B H k (.ref p) d ∧ ∀ o d', SR G.K (fun a => a = p) B (upd H p o) k (.ref p) d' → EnvR G ow B (upd H p o) σ (γ.set i (some d')) := by
  obtain ⟨own, h1, h2, h3⟩ := I.v
  obtain ⟨v, e, r⟩ := h3 i _ hg
  rw [hk] at r
  obtain ⟨p, rfl, hop, r2⟩ : ∃ p, v = .ref p ∧ own i p ∧ SR G.K (fun a => a = p) B H k (.ref p) d := by
    rcases h34 with rfl | rfl
    · obtain ⟨p, kvs, es, a1, a2, a3, a4, a5⟩ := r
      exact ⟨p, a1, a3, p, kvs, es, rfl, a2, rfl, a4, a5⟩
    · obtain ⟨p, kvs, es, a1, a2, a3, a4, a5⟩ := r
      exact ⟨p, a1, a3, p, kvs, es, rfl, a2, rfl, a4, a5⟩
  obtain ⟨b1, b2, b3⟩ := h1 i p hop
  refine ⟨p, e, b1, r2, fun o d' hn => ?_⟩
  have sB : Same B (upd H p o) := fun a u z => by
    have : a ≠ p := fun y => by subst y; rw [b1] at z; cases z
    rw [upd_ne this]; exact I.s a u z
  refine ⟨sB, ⟨I.e.b, fun a u z => ?_, sB, I.e.n⟩, by rw [List.length_set, I.len], (fun t z => by rw [hx] at z; cases z), own, fun j a hj => ?_, h2, fun j e' q => ?_⟩
  · have : a ≠ p := fun y => by subst y; rw [b2] at z; cases z
    rw [upd_ne this]; exact I.e.h a u z
  · obtain ⟨c1, c2, c3⟩ := h1 j a hj
    refine ⟨c1, c2, ?_⟩
    by_cases z : a = p
    · subst z
      rcases h34 with rfl | rfl
      · obtain ⟨p', kvs', es', z1, z2, z3, z4, z5⟩ := hn
        cases z1
        exact ⟨_, z4, fun _ w => nomatch w⟩
      · obtain ⟨p', kvs', es', z1, z2, z3, z4, z5⟩ := hn
        cases z1
        exact ⟨_, z4, fun _ w => nomatch w⟩
    · exact c3.upd z
  · by_cases z : j = i
    · subst z
      have hj : j < γ.length := I.lt hg
      rw [List.getElem?_set_self hj] at q
      cases q
      refine ⟨_, e, ?_⟩
      rw [hk]
      exact hn.monoB (.refl _) fun a ea => by rw [ea]; exact hop
    · rw [List.getElem?_set_ne (Ne.symm z)] at q
      obtain ⟨w, e1, r⟩ := h3 j e' q
      refine ⟨w, e1, r.keepH fun a ha => upd_ne fun y => by subst y; exact z (h2 j i _ ha hop)⟩
end
/-! keys as data -/
def keysO : List D → Option (List Key)
  | [] => some []
  | d :: ds => (keyO d).bind fun k => (keysO ds).map fun ks => k :: ks
def keyT : D → Option (List Key)
  | .tuple ds => keysO ds
  | _ => none
def es3 : List (D × D) → Option (List (Key × D))
  | [] => some []
  | (k, d) :: r => (keyO k).bind fun k => (es3 r).map fun l => (k, d) :: l
def es4 : List (D × D) → Option (List (List Key × D))
  | [] => some []
  | (k, d) :: r => (keyT k).bind fun k => (es4 r).map fun l => (k, d) :: l
def d3 : D → Option (List (Key × D))
  | .dict es => es3 es
  | _ => none
def d4 : D → Option (List (List Key × D))
  | .dict es => es4 es
  | _ => none
def mk3 (l : List (Key × D)) : D := .dict (l.map fun q => (kD q.1, q.2))
def mk4 (l : List (List Key × D)) : D := .dict (l.map fun q => (.tuple (q.1.map kD), q.2))
theorem keyO_kD (k : Key) : keyO (kD k) = some k := by cases k <;> rfl
theorem keysO_kD : ∀ ks : List Key, keysO (ks.map kD) = some ks
  | [] => rfl
  | k :: ks => by
    show (keyO (kD k)).bind _ = _
    rw [keyO_kD]
    show (keysO (ks.map kD)).map _ = _
    rw [keysO_kD ks]
    rfl
theorem es3_mk : ∀ l : List (Key × D), es3 (l.map fun q => (kD q.1, q.2)) = some l
  | [] => rfl
  | (k, d) :: r => by
    show (keyO (kD k)).bind _ = _
    rw [keyO_kD]
    show (es3 (r.map _)).map _ = _
    rw [es3_mk r]
    rfl
theorem es4_mk : ∀ l : List (List Key × D), es4 (l.map fun q => (.tuple (q.1.map kD), q.2)) = some l
  | [] => rfl
  | (k, d) :: r => by
    show (keysO (k.map kD)).bind _ = _
    rw [keysO_kD]
    show (es4 (r.map _)).map _ = _
    rw [es4_mk r]
    rfl
theorem kv_rel {K : PySem.W.Frag} {H : Hp} : ∀ {kvs : List (Key × V)} {es : List (D × D)}, DnKv K H kvs es → ∃ l : List (Key × D), es = l.map (fun q => (kD q.1, q.2)) ∧ Paired (fun (p : Key × V) (q : Key × D) => p.1 = q.1 ∧ Dn K H p.2 q.2) kvs l
  | _, _, .nil => ⟨[], rfl, .nil⟩
  | _, _, .cons (k := k) (d := d) a t => by
    obtain ⟨l, e, h⟩ := kv_rel t
    exact ⟨(k, d) :: l, by rw [e]; rfl, .cons ⟨rfl, a⟩ h⟩
theorem kt_rel {K : PySem.W.Frag} {H : Hp} : ∀ {kvs : List (List Key × V)} {es : List (D × D)}, DnKt K H kvs es → ∃ l : List (List Key × D), es = l.map (fun q => (.tuple (q.1.map kD), q.2)) ∧ Paired (fun (p : List Key × V) (q : List Key × D) => p.1 = q.1 ∧ Dn K H p.2 q.2) kvs l
  | _, _, .nil => ⟨[], rfl, .nil⟩
  | _, _, .cons (k := k) (d := d) a t => by
    obtain ⟨l, e, h⟩ := kt_rel t
    exact ⟨(k, d) :: l, by rw [e]; rfl, .cons ⟨rfl, a⟩ h⟩
theorem kv_of {K : PySem.W.Frag} {H : Hp} : ∀ {kvs : List (Key × V)} {l : List (Key × D)}, Paired (fun (p : Key × V) (q : Key × D) => p.1 = q.1 ∧ Dn K H p.2 q.2) kvs l → DnKv K H kvs (l.map fun q => (kD q.1, q.2))
  | _, _, .nil => .nil
  | (k, v) :: _, (k', d) :: _, .cons a t => by
    obtain ⟨rfl, b⟩ := (show k = k' ∧ Dn K H v d from a)
    exact .cons b (kv_of t)
theorem kt_of {K : PySem.W.Frag} {H : Hp} : ∀ {kvs : List (List Key × V)} {l : List (List Key × D)}, Paired (fun (p : List Key × V) (q : List Key × D) => p.1 = q.1 ∧ Dn K H p.2 q.2) kvs l → DnKt K H kvs (l.map fun q => (.tuple (q.1.map kD), q.2))
  | _, _, .nil => .nil
  | (k, v) :: _, (k', d) :: _, .cons a t => by
    obtain ⟨rfl, b⟩ := (show k = k' ∧ Dn K H v d from a)
    exact .cons b (kt_of t)
/-! storing -/
def putG {κ : Type} [DecidableEq κ] (es : List (κ × D)) (k : κ) (d : D) : List (κ × D) :=
  if (es.any fun kv => decide (kv.1 = k)) = true then es.map (fun kv => if kv.1 = k then (kv.1, d) else kv) else es ++ [(k, d)]
abbrev PrR {κ : Type} (K : PySem.W.Frag) (B : Hp) : List (κ × V) → List (κ × D) → Prop := Paired fun (p : κ × V) (q : κ × D) => p.1 = q.1 ∧ Dn K B p.2 q.2
theorem pr_mono {κ : Type} {K : PySem.W.Frag} {B B' : Hp} (s : Same B B') {kvs : List (κ × V)} {es : List (κ × D)} (h : PrR K B kvs es) : PrR K B' kvs es := Paired.mapP h fun _ _ ⟨a, b⟩ => ⟨a, b.mono s⟩
theorem pr_any {κ : Type} [DecidableEq κ] {K : PySem.W.Frag} {B : Hp} {kvs : List (κ × V)} {es : List (κ × D)} (k : κ) (h : PrR K B kvs es) : (kvs.any fun kv => decide (kv.1 = k)) = es.any fun kv => decide (kv.1 = k) := by
  induction h with
  | nil => rfl
  | cons a t ih => rw [List.any_cons, List.any_cons, ih, a.1]
theorem pr_put {κ : Type} [DecidableEq κ] {K : PySem.W.Frag} {B : Hp} {kvs : List (κ × V)} {es : List (κ × D)} {k : κ} {v : V} {d : D} (h : PrR K B kvs es) (hv : Dn K B v d) : PrR K B (putK kvs k v) (putG es k d) := by
  have key : PrR K B (kvs.map fun kv => if kv.1 = k then (kv.1, v) else kv) (es.map fun kv => if kv.1 = k then (kv.1, d) else kv) := by
    induction h with
    | nil => exact .nil
    | cons a t ih =>
      refine .cons ?_ ih
      dsimp only
      rw [a.1]
      split
      · exact ⟨rfl, hv⟩
      · exact a
  unfold putK putG
  rw [pr_any k h]
  split
  · exact key
  · exact paired_append h (.cons ⟨rfl, hv⟩ .nil)
def valG {κ : Type} [DecidableEq κ] (es : List (κ × D)) (k : κ) : Option D := (es.find? fun kv => decide (kv.1 = k)).map (·.2)
theorem pr_val {κ : Type} [DecidableEq κ] {K : PySem.W.Frag} {B : Hp} {kvs : List (κ × V)} {es : List (κ × D)} (k : κ) (h : PrR K B kvs es) : match valG es k with
    | none => valV kvs k = none
    | some d => ∃ v, valV kvs k = some v ∧ Dn K B v d := by
  induction h with
  | nil => rfl
  | cons a t ih =>
    rename_i p q xs ys
    unfold valG valV
    by_cases e : q.1 = k
    · have e2 : p.1 = k := a.1.trans e
      simp only [List.find?_cons, e, e2, decide_true, Option.map_some]
      exact ⟨_, rfl, a.2⟩
    · have e2 : ¬ p.1 = k := fun z => e (a.1.symm.trans z)
      simp only [List.find?_cons, e, e2, decide_false]
      exact ih
def put3D (dd kk d : D) : Option D := (d3 dd).bind fun l => (keyO kk).bind fun k => if l.length < LIM then some (mk3 (putG l k d)) else none
def put4D (dd kk d : D) : Option D := (d4 dd).bind fun l => (keyT kk).bind fun k => if l.length < LIM then some (mk4 (putG l k d)) else none
@[simp] abbrev dputS (P : D → D → D → Option D) (i : Nat) (fe fi : Env → Rs D) : Env → Out := fun γ => liftS ((fe γ).bind fun d => (gE γ i).bind fun dd => (fi γ).bind fun kk => oR (P dd kk d)) γ fun e => .nx (γ.set i (some e))
theorem keysO_kV {K : PySem.W.Frag} {B : Hp} : ∀ {xs : List V} {ds : List D} {ks : List Key}, DnAll K B xs ds → keysO ds = some ks → xs = ks.map kV
  | _, _, _, .nil, h => by cases h; rfl
  | _, _, ks, .cons (v := v) (d := d) (ds := ds) a t, h => by
    unfold keysO at h
    cases hk : keyO d with
    | none => rw [hk] at h; cases h
    | some k =>
      rw [hk] at h
      replace h : (keysO ds).map _ = _ := h
      cases hr : keysO ds with
      | none => rw [hr] at h; cases h
      | some l =>
        rw [hr] at h
        cases h
        rw [keysO_kV t hr, keyO_kV (H := B) (B := B) (K := K) hk a]
        rfl
section
variable {X : Cx} {e ix : Expr} {x : Str} {p1 p2 pos : Pos} {G : Gd} {ow owL : List Nat} {fe fi : Env → Rs D}
theorem s_dnew3 {ow' : List Nat} {p' : Pos} (i : Nat) (hN : X.N.Nodup) (hw : ow.set i 3 = ow' := by rfl) (hlt : i < ow.length := by decide) (hi : X.N[i]? = some x := by rfl) (hx : Loc X.env.scope x := by first | exact .inl rfl | exact .inr rfl) (hg : G.x = none := by rfl)
    (hs : swapsWith (.Dict [] [] pos) (some (.Name x p')) p1.line X.env = pure false := by rfl) (hf : X.fn x = true ∨ X.env.scope.names.lookup x = some .local := by first | exact .inl rfl | exact .inr rfl | assumption) :
    PS X (.Assign [.Name x p'] (.Dict [] [] pos) p1) (cS G ow ow' owL fun γ => .nx (γ.set i (some (.dict [])))) :=
  (ps_set hN hi hx pe_dnewK hs hf).impD fun J σ H ⟨B, γ, I, q⟩ => fun p hp => by
    refine q B _ _ (.refl _) ?_
    rw [← hw]
    exact I.setO i hg hlt (.hid I.s hp) hp (same_none I.s hp) ⟨_, upd_same, fun _ z => nomatch z⟩ ⟨p, [], [], rfl, rfl, rfl, upd_same, .nil⟩
theorem s_dnew4 {ow' : List Nat} {p' : Pos} (i : Nat) (hN : X.N.Nodup) (hw : ow.set i 4 = ow' := by rfl) (hlt : i < ow.length := by decide) (hi : X.N[i]? = some x := by rfl) (hx : Loc X.env.scope x := by first | exact .inl rfl | exact .inr rfl) (hg : G.x = none := by rfl)
    (hs : swapsWith (.Dict [] [] pos) (some (.Name x p')) p1.line X.env = pure false := by rfl) (hf : X.fn x = true ∨ X.env.scope.names.lookup x = some .local := by first | exact .inl rfl | exact .inr rfl | assumption) :
    PS X (.Assign [.Name x p'] (.Dict [] [] pos) p1) (cS G ow ow' owL fun γ => .nx (γ.set i (some (.dict [])))) :=
  (ps_set hN hi hx pe_dnewT hs hf).impD fun J σ H ⟨B, γ, I, q⟩ => fun p hp => by
    refine q B _ _ (.refl _) ?_
    rw [← hw]
    exact I.setO i hg hlt (.hid I.s hp) hp (same_none I.s hp) ⟨_, upd_same, fun _ z => nomatch z⟩ ⟨p, [], [], rfl, rfl, rfl, upd_same, .nil⟩
theorem s_dput3 {n : Nat} (i : Nat) (hr : Room n X.A) (he : PE X e (cV G ow 0 fe)) (hix : PE X ix (cV G ow 0 fi)) (hk : ow.getD i 0 = 3 := by rfl) (hi : X.N[i]? = some x := by rfl) (hv : Vis X.env.scope x := by first | exact Or.inl rfl | exact Or.inr (Or.inl rfl) | exact Or.inr (Or.inr rfl)) (hg : G.x = none := by rfl)
    (hd : (x == ("__debug__" : Str)) = false := by decide) (hcd : (x == ("__classdict__" : Str)) = false := by decide) (hs : swapsWith e (some (.Subscript (.Name x p1) ix p2)) pos.line X.env = pure false := by rfl) :
    PS X (.Assign [.Subscript (.Name x p1) ix p2] e pos) (cS G ow ow owL (dputS put3D i fe fi)) :=
  (ps_dput (by have := hr.un; omega) (pe_var hi hv hd hcd) hix he hs).impD fun J σ H ⟨B, γ, I, q⟩ => ⟨B, γ, I, (OutP.lift I q).bind.imp fun d q v B1 H1 x1 hv => by
    obtain ⟨dd, hgi, q⟩ := q.bind.gE
    obtain ⟨p, e1, _⟩ := (I.mono x1).wrO hg hk (.inl rfl) hgi
    refine ⟨.ref p, e1, B1, γ, I.mono x1, q.bind.mono x1 fun kk q u B2 H2 x2 hu => ?_⟩
    obtain ⟨z, ez, q⟩ := q.oR
    obtain ⟨p', e1', hb, sr, wr⟩ := (I.mono (x1.trans x2)).wrO hg hk (.inl rfl) hgi
    rw [e1] at e1'
    cases e1'
    obtain ⟨_, kvs, es, a1, a2, a3, a4, a5⟩ := sr
    cases a1
    subst a2
    obtain ⟨l, e2, rel⟩ := kv_rel a5
    subst e2
    unfold put3D at ez
    replace ez : (es3 _).bind _ = _ := ez
    rw [es3_mk] at ez
    replace ez : (keyO kk).bind _ = _ := ez
    cases hkk : keyO kk with
    | none => rw [hkk] at ez; cases ez
    | some k =>
      rw [hkk] at ez
      replace ez : (if _ then _ else _) = _ := ez
      split at ez
      · rename_i hlen
        cases ez
        rw [keyO_kV hkk hu]
        have hl : kvs.length = l.length := Paired.length rel
        exact ⟨p, _, rfl, DPut.k a4 (by rw [hl]; exact lim_lt hlen), q B2 σ _ (x1.trans x2).b (wr _ _ ⟨p, _, _, rfl, rfl, rfl, upd_same, kv_of (pr_put rel (Dn.mono x2.b hv))⟩)⟩
      · cases ez⟩
theorem s_dput4 {n : Nat} (i : Nat) (hr : Room n X.A) (he : PE X e (cV G ow 0 fe)) (hix : PE X ix (cV G ow 0 fi)) (hk : ow.getD i 0 = 4 := by rfl) (hi : X.N[i]? = some x := by rfl) (hv : Vis X.env.scope x := by first | exact Or.inl rfl | exact Or.inr (Or.inl rfl) | exact Or.inr (Or.inr rfl)) (hg : G.x = none := by rfl)
    (hd : (x == ("__debug__" : Str)) = false := by decide) (hcd : (x == ("__classdict__" : Str)) = false := by decide) (hs : swapsWith e (some (.Subscript (.Name x p1) ix p2)) pos.line X.env = pure false := by rfl) :
    PS X (.Assign [.Subscript (.Name x p1) ix p2] e pos) (cS G ow ow owL (dputS put4D i fe fi)) :=
  (ps_dput (by have := hr.un; omega) (pe_var hi hv hd hcd) hix he hs).impD fun J σ H ⟨B, γ, I, q⟩ => ⟨B, γ, I, (OutP.lift I q).bind.imp fun d q v B1 H1 x1 hv => by
    obtain ⟨dd, hgi, q⟩ := q.bind.gE
    obtain ⟨p, e1, _⟩ := (I.mono x1).wrO hg hk (.inr rfl) hgi
    refine ⟨.ref p, e1, B1, γ, I.mono x1, q.bind.mono x1 fun kk q u B2 H2 x2 hu => ?_⟩
    obtain ⟨z, ez, q9⟩ := q.oR
    obtain ⟨p', e1', hb, sr, wr⟩ := (I.mono (x1.trans x2)).wrO hg hk (.inr rfl) hgi
    rw [e1] at e1'
    cases e1'
    obtain ⟨_, kvs, es, a1, a2, a3, a4, a5⟩ := sr
    cases a1
    subst a2
    obtain ⟨l, e2, rel⟩ := kt_rel a5
    subst e2
    unfold put4D at ez
    replace ez : (es4 _).bind _ = _ := ez
    rw [es4_mk] at ez
    replace ez : (keyT kk).bind _ = _ := ez
    cases hkk : keyT kk with
    | none => rw [hkk] at ez; cases ez
    | some k =>
      rw [hkk] at ez
      replace ez : (if _ then _ else _) = _ := ez
      split at ez
      · rename_i hlen
        cases ez
        unfold keyT at hkk
        split at hkk
        · rename_i ks
          have hu' : Dn G.K B2 u (.tuple ks) := hu
          cases hu' with
          | tup ha hda =>
            rw [keysO_kV hda hkk] at ha
            have hl : kvs.length = l.length := Paired.length rel
            exact ⟨p, _, rfl, DPut.t a4 (x2.s _ _ ha) (by rw [hl]; exact lim_lt hlen), q9 B2 σ _ (x1.trans x2).b (wr _ _ ⟨p, _, _, rfl, rfl, rfl, upd_same, kt_of (pr_put rel (Dn.mono x2.b hv))⟩)⟩
        · cases hkk
      · cases ez⟩
end
/-! reading -/
def in3D (neg : Bool) (dd kk : D) : Option D := (d3 dd).bind fun l => (keyO kk).map fun k => .bool (neg != (valG l k).isSome)
def in4D (neg : Bool) (dd kk : D) : Option D := (d4 dd).bind fun l => (keyT kk).map fun k => .bool (neg != (valG l k).isSome)
def get3D (dd kk : D) : Option D := (d3 dd).bind fun l => (keyO kk).bind fun k => valG l k
def get4D (dd kk : D) : Option D := (d4 dd).bind fun l => (keyT kk).bind fun k => valG l k
/-- what the slot's object answers at a key -/
theorem ask3 {G : Gd} {ow : List Nat} {B H : Hp} {σ : L2.St} {γ : Env} (I : EnvR G ow B H σ γ) {i : Nat} {dd kk : D} {u : V} (hx : G.x = none) (hk : ow.getD i 0 = 3) (hg : γ[i]? = some (some dd)) {l : List (Key × D)} {k : Key} (h3 : d3 dd = some l) (hkk : keyO kk = some k) (hu : Dn G.K B u kk) :
    ∃ p o, σ[i]? = some (some (.ref p)) ∧ DGet H p u o ∧ match valG l k with
      | none => o = none
      | some d => ∃ v, o = some v ∧ Dn G.K B v d := by
  obtain ⟨p, e1, hb, sr, _⟩ := I.wrO hx hk (.inl rfl) hg
  obtain ⟨_, kvs, es, a1, a2, a3, a4, a5⟩ := sr
  cases a1
  subst a2
  obtain ⟨l', e2, rel⟩ := kv_rel a5
  subst e2
  replace h3 : es3 _ = _ := h3
  rw [es3_mk] at h3
  cases h3
  have := pr_val k rel
  refine ⟨p, valV kvs k, e1, ?_, this⟩
  rw [keyO_kV (H := B) hkk hu]
  exact DGet.k a4
theorem ask4 {G : Gd} {ow : List Nat} {B H : Hp} {σ : L2.St} {γ : Env} (I : EnvR G ow B H σ γ) {i : Nat} {dd kk : D} {u : V} (hx : G.x = none) (hk : ow.getD i 0 = 4) (hg : γ[i]? = some (some dd)) {l : List (List Key × D)} {k : List Key} (h3 : d4 dd = some l) (hkk : keyT kk = some k) (hu : Dn G.K B u kk) :
    ∃ p o, σ[i]? = some (some (.ref p)) ∧ DGet H p u o ∧ match valG l k with
      | none => o = none
      | some d => ∃ v, o = some v ∧ Dn G.K B v d := by
  obtain ⟨p, e1, hb, sr, _⟩ := I.wrO hx hk (.inr rfl) hg
  obtain ⟨_, kvs, es, a1, a2, a3, a4, a5⟩ := sr
  cases a1
  subst a2
  obtain ⟨l', e2, rel⟩ := kt_rel a5
  subst e2
  replace h3 : es4 _ = _ := h3
  rw [es4_mk] at h3
  cases h3
  have := pr_val k rel
  refine ⟨p, valV kvs k, e1, ?_, this⟩
  unfold keyT at hkk
  split at hkk
  · cases hu with
    | tup ha hda =>
      rw [keysO_kV hda hkk] at ha
      exact DGet.t a4 (I.s _ _ ha)
  · cases hkk
/-- a slot at level 3 or 4 is asked -/
structure Ask (F : D → D → Option (Option D)) (m : Nat) : Prop where
  run : ∀ {G : Gd} {ow : List Nat} {B H : Hp} {σ : L2.St} {γ : Env}, EnvR G ow B H σ γ → ∀ {i : Nat} {dd kk : D} {u : V}, G.x = none → ow.getD i 0 = m → γ[i]? = some (some dd) → ∀ {r : Option D}, F dd kk = some r → Dn G.K B u kk →
    ∃ p o, σ[i]? = some (some (.ref p)) ∧ DGet H p u o ∧ match r with
      | none => o = none
      | some d => ∃ v, o = some v ∧ Dn G.K B v d
def val3 (dd kk : D) : Option (Option D) := (d3 dd).bind fun l => (keyO kk).map fun k => valG l k
def val4 (dd kk : D) : Option (Option D) := (d4 dd).bind fun l => (keyT kk).map fun k => valG l k
theorem ask_3 : Ask val3 3 := ⟨by
  intro G ow B H σ γ I i dd kk u hx hk hg r hr hu
  unfold val3 at hr
  cases h3 : d3 dd with
  | none => rw [h3] at hr; cases hr
  | some l =>
    rw [h3] at hr
    cases hkk : keyO kk with
    | none => rw [hkk] at hr; cases hr
    | some k =>
      rw [hkk] at hr
      cases hr
      exact ask3 I hx hk hg h3 hkk hu⟩
theorem ask_4 : Ask val4 4 := ⟨by
  intro G ow B H σ γ I i dd kk u hx hk hg r hr hu
  unfold val4 at hr
  cases h3 : d4 dd with
  | none => rw [h3] at hr; cases hr
  | some l =>
    rw [h3] at hr
    cases hkk : keyT kk with
    | none => rw [hkk] at hr; cases hr
    | some k =>
      rw [hkk] at hr
      cases hr
      exact ask4 I hx hk hg h3 hkk hu⟩
@[simp] abbrev eDin (F : D → D → Option (Option D)) (neg : Bool) (i : Nat) (fi : Env → Rs D) : Env → Rs D := fun γ => (fi γ).bind fun kk => (gE γ i).bind fun dd => (oR (F dd kk)).bind fun r => .ok (.bool (neg != r.isSome))
@[simp] abbrev eDget (F : D → D → Option (Option D)) (i : Nat) (fi : Env → Rs D) : Env → Rs D := fun γ => (gE γ i).bind fun dd => (fi γ).bind fun kk => (oR (F dd kk)).bind fun r => oR r
section
variable {X : Cx} {ix : Expr} {x : Str} {p1 pos : Pos} {G : Gd} {ow : List Nat} {fi : Env → Rs D} {F : D → D → Option (Option D)} {m n : Nat}
theorem d_din (A : Ask F m) (i : Nat) (hr : Room n X.A) (hix : PE X ix (cV G ow 0 fi)) (hk : ow.getD i 0 = m := by rfl) (hi : X.N[i]? = some x := by rfl) (hv : Vis X.env.scope x := by first | exact Or.inl rfl | exact Or.inr (Or.inl rfl) | exact Or.inr (Or.inr rfl)) (hg : G.x = none := by rfl)
    (hd : (x == ("__debug__" : Str)) = false := by decide) (hcd : (x == ("__classdict__" : Str)) = false := by decide) : PE X (.Compare ix [.In] [.Name x p1] pos) (cV G ow 0 (eDin F false i fi)) :=
  (pe_cmp (pc_din (by have := hr.un; omega) hix (pe_var hi hv hd hcd)) rfl).impD fun σ H Q ⟨B, γ, I, q⟩ => ⟨B, γ, I, q.bind.imp fun kk q u B1 H1 x1 hu => by
    obtain ⟨dd, hgi, q⟩ := q.bind.gE
    obtain ⟨r, er, q⟩ := q.bind.oR
    obtain ⟨p, o, e1, dg, hr⟩ := A.run (I.mono x1) hg hk hgi er hu
    refine ⟨.ref p, e1, p, o, rfl, dg, ?_⟩
    have e : o.isSome = r.isSome := by
      cases r with
      | none => rw [show o = none from hr]; rfl
      | some d => obtain ⟨v, e, _⟩ := hr; rw [e]; rfl
    rw [e]
    exact q _ B1 H1 x1 (by rw [Bool.false_bne]; exact .bl _)⟩
theorem d_dnotin (A : Ask F m) (i : Nat) (hr : Room n X.A) (hix : PE X ix (cV G ow 0 fi)) (hk : ow.getD i 0 = m := by rfl) (hi : X.N[i]? = some x := by rfl) (hv : Vis X.env.scope x := by first | exact Or.inl rfl | exact Or.inr (Or.inl rfl) | exact Or.inr (Or.inr rfl)) (hg : G.x = none := by rfl)
    (hd : (x == ("__debug__" : Str)) = false := by decide) (hcd : (x == ("__classdict__" : Str)) = false := by decide) : PE X (.Compare ix [.NotIn] [.Name x p1] pos) (cV G ow 0 (eDin F true i fi)) :=
  (pe_cmp (pc_dnotin (by have := hr.un; omega) hix (pe_var hi hv hd hcd)) rfl).impD fun σ H Q ⟨B, γ, I, q⟩ => ⟨B, γ, I, q.bind.imp fun kk q u B1 H1 x1 hu => by
    obtain ⟨dd, hgi, q⟩ := q.bind.gE
    obtain ⟨r, er, q⟩ := q.bind.oR
    obtain ⟨p, o, e1, dg, hr⟩ := A.run (I.mono x1) hg hk hgi er hu
    refine ⟨.ref p, e1, p, o, rfl, dg, ?_⟩
    have e : o.isSome = r.isSome := by
      cases r with
      | none => rw [show o = none from hr]; rfl
      | some d => obtain ⟨v, e, _⟩ := hr; rw [e]; rfl
    rw [e]
    exact q _ B1 H1 x1 (by rw [Bool.true_bne]; exact .bl _)⟩
theorem t_din (A : Ask F m) (i : Nat) (hr : Room n X.A) (hix : PE X ix (cV G ow 0 fi)) (hk : ow.getD i 0 = m := by rfl) (hi : X.N[i]? = some x := by rfl) (hv : Vis X.env.scope x := by first | exact Or.inl rfl | exact Or.inr (Or.inl rfl) | exact Or.inr (Or.inr rfl)) (hg : G.x = none := by rfl)
    (hd : (x == ("__debug__" : Str)) = false := by decide) (hcd : (x == ("__classdict__" : Str)) = false := by decide) : PT X (.Compare ix [.In] [.Name x p1] pos) (cT G ow (b1 (eDin F false i fi) boolO)) :=
  (pt_cmp (pc_din (by have := hr.un; omega) hix (pe_var hi hv hd hcd)) rfl).impD fun σ H Q ⟨B, γ, I, q⟩ => ⟨B, γ, I, q.bind.bind.imp fun kk q u B1 H1 x1 hu => by
    obtain ⟨dd, hgi, q⟩ := q.bind.gE
    obtain ⟨r, er, q⟩ := q.bind.oR
    obtain ⟨p, o, e1, dg, hr⟩ := A.run (I.mono x1) hg hk hgi er hu
    refine ⟨.ref p, e1, p, o, rfl, dg, _, rfl, ?_⟩
    have e : o.isSome = r.isSome := by
      cases r with
      | none => rw [show o = none from hr]; rfl
      | some d => obtain ⟨v, e, _⟩ := hr; rw [e]; rfl
    rw [e]
    have q2 : RsP G σ B H (oR (boolO (.bool (false != r.isSome)))) (fun b => ∀ B' H', Ext B H B' H' → Q b H') := q
    obtain ⟨b, eb, q⟩ := q2.oR
    cases eb
    rw [Bool.false_bne] at q
    exact q B1 H1 x1⟩
theorem t_dnotin (A : Ask F m) (i : Nat) (hr : Room n X.A) (hix : PE X ix (cV G ow 0 fi)) (hk : ow.getD i 0 = m := by rfl) (hi : X.N[i]? = some x := by rfl) (hv : Vis X.env.scope x := by first | exact Or.inl rfl | exact Or.inr (Or.inl rfl) | exact Or.inr (Or.inr rfl)) (hg : G.x = none := by rfl)
    (hd : (x == ("__debug__" : Str)) = false := by decide) (hcd : (x == ("__classdict__" : Str)) = false := by decide) : PT X (.Compare ix [.NotIn] [.Name x p1] pos) (cT G ow (b1 (eDin F true i fi) boolO)) :=
  (pt_cmp (pc_dnotin (by have := hr.un; omega) hix (pe_var hi hv hd hcd)) rfl).impD fun σ H Q ⟨B, γ, I, q⟩ => ⟨B, γ, I, q.bind.bind.imp fun kk q u B1 H1 x1 hu => by
    obtain ⟨dd, hgi, q⟩ := q.bind.gE
    obtain ⟨r, er, q⟩ := q.bind.oR
    obtain ⟨p, o, e1, dg, hr⟩ := A.run (I.mono x1) hg hk hgi er hu
    refine ⟨.ref p, e1, p, o, rfl, dg, _, rfl, ?_⟩
    have e : o.isSome = r.isSome := by
      cases r with
      | none => rw [show o = none from hr]; rfl
      | some d => obtain ⟨v, e, _⟩ := hr; rw [e]; rfl
    rw [e]
    have q2 : RsP G σ B H (oR (boolO (.bool (true != r.isSome)))) (fun b => ∀ B' H', Ext B H B' H' → Q b H') := q
    obtain ⟨b, eb, q⟩ := q2.oR
    cases eb
    rw [Bool.true_bne] at q
    exact q B1 H1 x1⟩
theorem d_dget (A : Ask F m) (i : Nat) (hr : Room n X.A) (hix : PE X ix (cV G ow 0 fi)) (hk : ow.getD i 0 = m := by rfl) (hi : X.N[i]? = some x := by rfl) (hv : Vis X.env.scope x := by first | exact Or.inl rfl | exact Or.inr (Or.inl rfl) | exact Or.inr (Or.inr rfl)) (hg : G.x = none := by rfl)
    (hd : (x == ("__debug__" : Str)) = false := by decide) (hcd : (x == ("__classdict__" : Str)) = false := by decide) (hs : NoSl ix := by exact fun _ _ => rfl) : PE X (.Subscript (.Name x p1) ix pos) (cV G ow 0 (eDget F i fi)) :=
  (pe_dget (by have := hr.un; omega) (pe_var hi hv hd hcd) hix hs).impD fun σ H Q ⟨B, γ, I, q⟩ => by
    obtain ⟨dd, hgi, q⟩ := q.bind.gE
    obtain ⟨v0, e0, _⟩ := I.v.choose_spec.2.2 i dd hgi
    refine ⟨v0, e0, B, γ, I, q.bind.imp fun kk q u B1 H1 x1 hu => ?_⟩
    obtain ⟨r, er, q⟩ := q.bind.oR
    obtain ⟨p, o, e1, dg, hr⟩ := A.run (I.mono x1) hg hk hgi er hu
    rw [e0] at e1
    cases e1
    obtain ⟨d, ed, q⟩ := q.oR
    subst ed
    obtain ⟨v, ev, hv'⟩ := hr
    subst ev
    exact ⟨p, v, rfl, dg, q v B1 H1 x1 hv'⟩
end
@[simp] abbrev eDget2 (F : D → D → Option (Option D)) (i : Nat) (fi fz : Env → Rs D) : Env → Rs D := fun γ => (gE γ i).bind fun dd => (fi γ).bind fun kk => (fz γ).bind fun z => (oR (F dd kk)).bind fun r => .ok (r.getD z)
def dlenD : D → Option D
  | .dict es => some (.int (es.length : Nat))
  | _ => none
section
variable {X : Cx} {ix zx : Expr} {x : Str} {p p1 ap pos : Pos} {G : Gd} {ow : List Nat} {fi fz : Env → Rs D} {F : D → D → Option (Option D)} {m n : Nat}
theorem d_dget2 (A : Ask F m) (h34 : m = 3 ∨ m = 4) (i : Nat) (hr : Room n X.A) (hix : PE X ix (cV G ow 0 fi)) (hz : PE X zx (cV G ow 0 fz)) (hk : ow.getD i 0 = m := by rfl) (hi : X.N[i]? = some x := by rfl) (hv : Vis X.env.scope x := by first | exact Or.inl rfl | exact Or.inr (Or.inl rfl) | exact Or.inr (Or.inr rfl)) (hg : G.x = none := by rfl)
    (hd : (x == ("__debug__" : Str)) = false := by decide) (hcd : (x == ("__classdict__" : Str)) = false := by decide) (hm : M2 X (.Name x p1) "get" ap ix zx pos := by exact ⟨rfl, rfl, rfl, rfl⟩) : PE X (.Call (.Attribute (.Name x p1) "get" ap) [ix, zx] [] pos) (cV G ow 0 (eDget2 F i fi fz)) :=
  (pe_dget2 (by have := hr.un; omega) (pe_var hi hv hd hcd) hix hz hm).impD fun σ H Q ⟨B, γ, I, q⟩ => by
    obtain ⟨dd, hgi, q⟩ := q.bind.gE
    obtain ⟨p0, e0, _, sr, _⟩ := I.wrO hg hk h34 hgi
    have isd : IsD H p0 := by
      rcases h34 with rfl | rfl
      · obtain ⟨_, kvs, es, a1, a2, a3, a4, a5⟩ := sr
        cases a1
        exact .inl ⟨kvs, .inl a4⟩
      · obtain ⟨_, kvs, es, a1, a2, a3, a4, a5⟩ := sr
        cases a1
        exact .inr ⟨kvs, .inl a4⟩
    refine ⟨.ref p0, e0, p0, rfl, isd, B, γ, I, q.bind.imp fun kk q u B1 H1 x1 hu => ⟨B1, γ, I.mono x1, q.bind.mono x1 fun z q w B2 H2 x2 hw => ?_⟩⟩
    obtain ⟨r, er, q⟩ := q.bind.oR
    obtain ⟨p', o, e1, dg, hr⟩ := A.run (I.mono (x1.trans x2)) hg hk hgi er (Dn.mono x2.b hu)
    rw [e0] at e1
    cases e1
    refine ⟨o, dg, ?_⟩
    cases r with
    | none =>
      rw [show o = none from hr]
      exact q w B2 H2 (x1.trans x2) hw
    | some d =>
      obtain ⟨v, ev, hv'⟩ := hr
      rw [ev]
      exact q v B2 H2 (x1.trans x2) hv'
theorem d_dlen (h34 : m = 3 ∨ m = 4) (i : Nat) (hm : X.mg "len" = none) (hk : ow.getD i 0 = m := by rfl) (hi : X.N[i]? = some x := by rfl) (hv : Vis X.env.scope x := by first | exact Or.inl rfl | exact Or.inr (Or.inl rfl) | exact Or.inr (Or.inr rfl)) (hg : G.x = none := by rfl) (hgl : Gl X "len" := by rfl)
    (hd : (x == ("__debug__" : Str)) = false := by decide) (hcd : (x == ("__classdict__" : Str)) = false := by decide) (he : starEach [.Name x p1] X.env = (false, eval (.Name x p1) X.env) :: starEach [] X.env := by rfl) (hpl : (backTo pos (starEach [] X.env)).any (·.1) = false := by rfl) :
    PE X (.Call (.Name "len" p) [.Name x p1] [] pos) (cV G ow 0 fun γ => (gE γ i).bind fun dd => oR (dlenD dd)) :=
  (pe_callB (CallR.or call_lenD call_len_dT) hgl hm PySem.boot_len (pa_cons (pe_var hi hv hd hcd) pa_nil he) (by decide) (by decide) he hpl).impD fun σ H Q ⟨B, γ, I, q⟩ => by
    obtain ⟨dd, hgi, q⟩ := q.bind.gE
    obtain ⟨p0, e0, _, sr, _⟩ := I.wrO hg hk h34 hgi
    obtain ⟨z, ez, q⟩ := q.oR
    refine ⟨.ref p0, e0, ?_⟩
    rcases h34 with rfl | rfl
    · obtain ⟨_, kvs, es, a1, a2, a3, a4, a5⟩ := sr
      cases a1
      subst a2
      cases ez
      exact .inl ⟨p0, kvs, rfl, a4, by rw [kv_len a5]; exact q _ B H (.refl I.s) (Dn.int _)⟩
    · obtain ⟨_, kvs, es, a1, a2, a3, a4, a5⟩ := sr
      cases a1
      subst a2
      cases ez
      exact .inr ⟨p0, kvs, rfl, a4, by rw [kt_len a5]; exact q _ B H (.refl I.s) (Dn.int _)⟩
end
@[simp] abbrev sDnew (i : Nat) : Env → Out := fun γ => .nx (γ.set i (some (.dict [])))
end DL
set_option Elab.async false
set_option linter.all false
set_option maxRecDepth 100000
set_option maxHeartbeats 4000000
/-! The data layer: dict comprehensions with tuples as keys. -/
namespace DL
open PySem PySem.Spec PyProof.Rows L2

theorem tset {X : Cx} {pins : List (Addr × Obj)} {σ : L2.St} {H : Hp} {s : Shared} {E : Value → Shared → Prop} {Q : Unit → Shared → Prop} {D b : Addr} {kvs : List (List Key × V)} {k : List Key} {v : V} {r : Value} (hu : X.A.units < cLine) (I : L2.Inv X pins σ H s)
    (hD : H D = some (.dT kvs)) (hz : kvs.length < sizeLine) (eb : H b = some (.tup (k.map kV))) (rv : RelV v r) (h : ∀ t, L2.Inv X pins σ (upd H D (.dT (putK kvs k v))) t → Q () t) : wpAny (model X.prog X.w) X.A (dictSet D (.ref b) r) Q E s := by
  obtain ⟨z1, z2, ps, pr, od⟩ := dt_of I.hok hD
  have hl := length_putK kvs k v
  refine wpAny_dictSet_heap (knd := tupleKind (mixKind X.prog X.w)) (hsz := by rw [← Paired.length pr]; exact z1) hu (key_of I.hok eb) od fun g od' sb => h _ ?_
  obtain ⟨ob, es, ep, g1, g2, g3, g4, _, g5⟩ := od'
  refine d_write I (by rw [hD]; exact True.intro) sb ⟨ob, g1⟩ ⟨by omega, z2, _, (pr.put k eb rv).keeps fun c ys ec => ?_, ob, es, ep, g1, g2, g3, g4, g5⟩
  rw [upd_ne (ne_of ec hD (fun z => nomatch z))]
  exact ec
/-- {k: v for tg in iter if ..}, its keys tuples -/
def tDcT (wi : TI) (g : TG) (tt : TT) (tk tv : TE) (vs : List Nat) : TE := fun σ H Q => wi σ H fun J H1 => ∀ D, H1 D = none → ∃ W : Nat → Nat → Hp → Prop, (∃ m, W 0 m (upd H1 D (.dT []))) ∧ ∀ i m Ha, W i m Ha →
  (J.stop i Ha ∧ Q (.ref D) Ha) ∨ (J.go i Ha ∧ ∃ Nx : Hp → Prop, (∀ Hn, Nx Hn → ∃ j, j < m ∧ W (i + 1) j Hn) ∧ ∀ x Hy, J.yld i Ha x Hy → g x (L2.wipe σ vs) Hy fun τ Hb => L2.wipe τ vs = L2.wipe σ vs ∧ tt τ Hb fun b Hc =>
    if b = true then tk τ Hc fun y Hd => tv τ Hd fun z He => ∃ kvs k q, y = .ref q ∧ He q = some (.tup (k.map kV)) ∧ He D = some (.dT kvs) ∧ kvs.length < sizeLine ∧ Nx (upd He D (.dT (putK kvs k z))) else Nx Hc)
section
variable {X : Cx} {kx vx tg iter : Expr} {ifs : List Expr} {scope : Scope} {own : List (Str × Nat)} {pos : Pos} {wi : TI} {g : TG} {tt : TT} {tk tv : TE}
/-- the comprehension's block, seen from a heap with the new dict -/
theorem pe_dcT (hc : X.calm = true) (hu : X.A.units < cLine) (hN : X.N.Nodup) (hi : PI X tg iter wi) (ok : BlkOk X.N X.env.scope scope own)
    (hg : ∀ (t : Shared) (Ht : Hp) (C : Addr) (cl : List (Str × Addr)) (fp : List Addr), PG (X.blk t Ht scope (compEnvC scope cl C X.env) fp) tg g) (ht : ∀ (t : Shared) (Ht : Hp) (C : Addr) (cl : List (Str × Addr)) (fp : List Addr), PTs (X.blk t Ht scope (compEnvC scope cl C X.env) fp) ifs tt)
    (hk : ∀ (t : Shared) (Ht : Hp) (C : Addr) (cl : List (Str × Addr)) (fp : List Addr), PE (X.blk t Ht scope (compEnvC scope cl C X.env) fp) kx tk)
    (he : ∀ (t : Shared) (Ht : Hp) (C : Addr) (cl : List (Str × Addr)) (fp : List Addr), PE (X.blk t Ht scope (compEnvC scope cl C X.env) fp) vx tv) (hs : ∀ x, foldedSetIterable iter X.env x = pure x := by intro _; rfl) :
    PE X (.DictComp kx vx [⟨tg, iter, ifs, 0⟩] scope pos) (tDcT wi g tt tk tv (own.map (·.2))) := ⟨fun pins s σ H Q I h => by
  have free : ∀ y ∈ scope.names, y.2 = .free → ∃ c, X.env.cells.lookup y.1 = some c := fun y hy e => (ok.free y hy e).elim (fun z => I.ok.has _ (.inl z)) fun z => I.ok.has _ (.inr z)
  rw [arm_eval_DictComp]
  refine wpAny_comprehension_free rfl hs (closure_ok free) ok.kind (fun y hy e => by rw [ok.uniq y hy, e]) (thn (hi.run pins s σ H _ I h) fun sv t1 h1 => thn h1 fun iv t2 ⟨it, fp, tn, J, H2, e, I2, T, st2, f2, q⟩ => ?_)
  subst e
  refine wpAny_newObj_type (newEnv_comp ?_)
  obtain ⟨D, hD⟩ : ∃ D, t2.heap.objs.size = D := ⟨_, rfl⟩
  rw [hD]
  obtain ⟨W, ⟨m0, w0⟩, turn⟩ := q D (I2.hok.fresh (Nat.le_of_eq hD))
  obtain ⟨t3, h3⟩ : ∃ t3 : Shared, t3 = { t2 with heap := t2.heap.push { cls := .type "dict", data := .dict #[] } } := ⟨_, rfl⟩
  have hp3 : t3.heap = t2.heap.push { cls := .type "dict", data := .dict #[] } := by rw [h3]
  have I3 : L2.Inv X pins σ (upd H2 D (.dT [])) t3 := by
    rw [h3]
    refine I2.laid (t' := t2.toks) (fun b o w => Heap.get?_push_of_some _ w) (Nat.le_of_eq hD) (hD ▸ dt_empty t2.heap I2.big)
  have low : ∀ b ∈ fp, b < t2.heap.objs.size := fun b hb => let ⟨o, w, _⟩ := T.obj _ _ st2 b hb; Heap.lt_size w
  have f3 : ∀ b ∈ fp, FpOk X pins (upd H2 D (.dT [])) b ∧ b < t3.heap.objs.size := fun b hb => by
    refine ⟨⟨?_, (f2 b hb).2⟩, by rw [hp3, Heap.size_push]; exact Nat.lt_succ_of_lt (low b hb)⟩
    rw [upd_ne (hD ▸ Nat.ne_of_lt (low b hb))]
    exact (f2 b hb).1
  have st3 : tn 0 t3.heap := T.keep _ _ _ st2 fun b _ o w => by rw [hp3]; exact Heap.get?_push_of_some _ w
  have nf : ∀ b ∈ fp, (upd H2 D (.dT [])) b = none := fun b hb => (f3 b hb).1.1
  obtain ⟨H3, hH3⟩ : ∃ H3, upd H2 D (.dT []) = H3 := ⟨_, rfl⟩
  rw [hH3] at I3 f3 nf w0
  have I4 := block_start I3 ok hN f3
  obtain ⟨sz, hsz⟩ : ∃ z, t3.heap.objs.size = z := ⟨_, rfl⟩
  obtain ⟨cl, hcl⟩ : ∃ cl, cellsFrom (sz + 1) scope.names (cloFrom X.env.cells scope.names []) = cl := ⟨_, rfl⟩
  rw [hsz, hcl] at I4
  have pg := hg t3 H3 sz cl fp
  have pt := ht t3 H3 sz cl fp
  have pk := hk t3 H3 sz cl fp
  have pe := he t3 H3 sz cl fp
  change codeAny _ _ (.compStart (.DictComp kx vx [⟨tg, iter, ifs, 0⟩] scope pos) 0 (.ref it) (.ref D) (compEnvC scope (cellsFrom (({ t2 with heap := t2.heap.push { cls := .type "dict", data := .dict #[] } } : Shared).heap.objs.size + 1) scope.names (cloFrom X.env.cells scope.names [])) ({ t2 with heap := t2.heap.push { cls := .type "dict", data := .dict #[] } } : Shared).heap.objs.size X.env)) (compPost _ _ _ _ _ (.ref D) ({ t2 with heap := t2.heap.push { cls := .type "dict", data := .dict #[] } } : Shared).heap.objs.size) _
  rw [← h3, hsz, hcl]
  obtain ⟨ce, hce⟩ : ∃ ce, compEnvC scope cl sz X.env = ce := ⟨_, rfl⟩
  have cloc : ce.locals = sz := by rw [← hce]; rfl
  rw [hce] at I4 pg pt pk pe ⊢
  obtain ⟨t4, h4⟩ : ∃ t4 : Shared, ({ t3 with heap := pushCells (t3.heap.push { cls := .type "dict", data := .dict #[] }) scope.names } : Shared) = t4 := ⟨_, rfl⟩
  change codeAny _ _ _ _ ({ t3 with heap := pushCells (t3.heap.push { cls := .type "dict", data := .dict #[] }) scope.names } : Shared)
  rw [h4] at I4 ⊢
  have st4 : tn 0 t4.heap := T.keep _ _ _ st3 fun b _ o w => by rw [← h4]; exact pushCells_keeps _ _ _ _ (Heap.get?_push_of_some _ w)
  have fixd : ∀ {τ : L2.St} {Ht : Hp} {t : Shared}, L2.Inv (X.blk t3 H3 scope ce fp) [] τ Ht t → (∀ b ∈ fp, Ht b = none) → ∀ b ∈ fp, FpOk (X.blk t3 H3 scope ce fp) [] Ht b := fun {τ Ht t} J' hn b hb => by
    obtain ⟨z1, z2⟩ := J'.ok.exf b hb
    exact ⟨hn b hb, z1, J'.ok.exfs b hb, .inl hb, fun x c w => z2 x c w, fun p hp => absurd (show p ∈ ([] : List (Addr × Obj)) ++ [] from hp) (by simp)⟩
  have loop : codeAny (model X.prog X.w) X.A (.compLoop (.DictComp kx vx [⟨tg, iter, ifs, 0⟩] scope pos) 0 (.ref it) (.ref D) ce) (compPost (model X.prog X.w) X.A X.xe none (EP X pins σ Q) (.ref D) sz) t4 := by
    refine compLoop_anyD (fun n t => ∃ i Ht, L2.Inv (X.blk t3 H3 scope ce fp) [] (L2.wipe σ (own.map (·.2))) Ht t ∧ tn i t.heap ∧ (∀ b ∈ fp, Ht b = none) ∧ W i n Ht) (fun n t ⟨i, Ht, I5, st5, n5, w5⟩ => ?_) m0 ⟨0, H3, I4, st4, nf, w0⟩
    rcases turn i n Ht w5 with ⟨stop, qq⟩ | ⟨go, Nx, hNx, step⟩
    · refine thnF (T.done (X.blk t3 H3 scope ce fp) rfl rfl rfl hc i [] t _ Ht (fun _ _ => False) I5 (fixd I5 n5) st5 stop) fun r t6 ⟨hr, I6⟩ => ?_
      subst hr
      have I7 : L2.Inv X pins σ Ht t6 := I3.call' (ch := fp) I6.os I6.base I6.hok I6.bare fun b hb => by
        obtain ⟨_, a1, a2, a3, a4, a5⟩ := (f3 b hb).1
        exact ⟨a3, a1, a4, a5⟩
      have nC : Ht sz = none := cloc ▸ I6.free
      obtain ⟨m, hm, _⟩ := I6.loc
      have hns : t6.heap.Ns ce.locals m := hm
      rw [cloc] at hns
      refine ⟨m, hns, fun g' sb => ?_⟩
      obtain ⟨b0, b1, b2, b3, b4, b5⟩ := I3.fpOk (Nat.le_of_eq hsz) nC
      exact ⟨.ref D, Ht, I7.turned (t' := t6.toks) (fun b o hb w => (sb.2 b hb).trans w) b0 b1 b3 b4 b5, rfl, qq⟩
    · refine thnF (T.item (X.blk t3 H3 scope ce fp) rfl rfl rfl hc i [] t _ Ht (fun _ _ => False) I5 (fixd I5 n5) st5 go) fun r t6 ⟨u, hr, h6⟩ => ?_
      subst hr
      refine thnF h6 fun _ t7 ⟨x, H7, I7, r7, y7, st7, n7⟩ => ?_
      refine thnF (pg.run _ t7 _ H7 x u _ (I7.pinned (fixd I7 n7) (T.obj _ _ st7)) r7 (step x H7 y7)) fun _ t8 ⟨τ, H8, I8, hw8, q8⟩ => ?_
      refine thnF (pt.run _ t8 τ H8 _ I8 q8) fun b t9 ⟨H9, I9, q9⟩ => ?_
      have fin : ∀ {t : Shared} {Hn : Hp}, L2.Inv (X.blk t3 H3 scope ce fp) ([] ++ pinsAt fp t7.heap) τ Hn t → Nx Hn → ∃ m, m < n ∧ ∃ i Ht, L2.Inv (X.blk t3 H3 scope ce fp) [] (L2.wipe σ (own.map (·.2))) Ht t ∧ tn i t.heap ∧ (∀ b ∈ fp, Ht b = none) ∧ W i m Ht := fun {t Hn} J' nx => by
        obtain ⟨j, hj, wj⟩ := hNx Hn nx
        have still : ∀ b ∈ fp, ∀ o, t7.heap.get? b = some o → t.heap.get? b = some o ∧ Hn b = none := fun b hb o w => by
          have z := J'.pin (b, o) (List.mem_append_right _ (List.mem_append_right _ (mem_pinsAt hb w)))
          exact ⟨z.1, z.2.1⟩
        have hlen : (L2.wipe σ (own.map (·.2))).length = τ.length := by rw [← hw8, wipe_length]
        refine ⟨j, hj, i + 1, Hn, (J'.unpinned (pins := [])).weak hlen (fun l v w => (wipe_some (hw8 ▸ w)).1), T.keep _ _ _ st7 fun b hb o w => (still b hb o w).1, fun b hb => ?_, wj⟩
        obtain ⟨o, w, _⟩ := T.obj _ _ st7 b hb
        exact (still b hb o w).2
      cases b with
      | false => exact fin I9 (by simpa using q9)
      | true =>
        rw [if_pos rfl] at q9
        rw [if_pos rfl]
        refine thnF (pk.run _ t9 τ H9 _ I9 q9) fun z t10 ⟨yk, H10, I10, r10, q10⟩ => ?_
        refine thnF (pe.run _ t10 τ H10 _ I10 q10) fun z2 t11 ⟨yv, H11, I11, r11, kvs, k, b, ek, eb, hD11, hz11, nx⟩ => ?_
        subst ek
        cases r10
        exact tset (X := X.blk t3 H3 scope ce fp) hu I11 hD11 hz11 eb r11 fun t12 I12 => fin I12 nx
  exact codeAny_compStart_dict loop (T.self X.A 0 _ _ _ st4 loop)⟩
end
/-! len({k: d for ..}), its keys tuples -/
def keysTO : List D → Option (List (List Key))
  | [] => some []
  | d :: ds => (keyT d).bind fun k => (keysTO ds).map fun ks => k :: ks
def cntT (ks : List D) : Option D := (keysTO ks).bind fun l => if l.length ≤ LIM then some (.int (nubL l).length) else none
@[simp] abbrev eLenDcT (vs : List Nat) (fi : Env → Rs (List D)) (t : D → Env → Option Env) (c : Env → Rs Bool) (fk : Env → Rs D) : Env → Rs D := fun γ => (fi γ).bind fun ds => (compL t c fk ds (wipeE γ vs)).bind fun ks => oR (cntT ks)
theorem keysTO_app : ∀ (a b : List D) {l : List (List Key)}, keysTO (a ++ b) = some l → ∃ l1 l2, keysTO a = some l1 ∧ keysTO b = some l2 ∧ l = l1 ++ l2
  | [], b, l, h => ⟨[], l, rfl, h, rfl⟩
  | d :: a, b, l, h => by
    replace h : (keyT d).bind _ = _ := h
    cases hk : keyT d with
    | none => rw [hk] at h; cases h
    | some k =>
      rw [hk] at h
      replace h : (keysTO (a ++ b)).map _ = _ := h
      cases hr : keysTO (a ++ b) with
      | none => rw [hr] at h; cases h
      | some m =>
        rw [hr] at h
        cases h
        obtain ⟨l1, l2, e1, e2, e3⟩ := keysTO_app a b hr
        refine ⟨k :: l1, l2, ?_, e2, by rw [e3]; rfl⟩
        show (keyT d).bind _ = _
        rw [hk]
        show (keysTO a).map _ = _
        rw [e1]
        rfl
theorem keysTO_len : ∀ {a : List D} {l : List (List Key)}, keysTO a = some l → l.length = a.length
  | [], l, h => by cases h; rfl
  | d :: a, l, h => by
    replace h : (keyT d).bind _ = _ := h
    cases hk : keyT d with
    | none => rw [hk] at h; cases h
    | some k =>
      rw [hk] at h
      replace h : (keysTO a).map _ = _ := h
      cases hr : keysTO a with
      | none => rw [hr] at h; cases h
      | some m =>
        rw [hr] at h
        cases h
        rw [List.length_cons, List.length_cons, keysTO_len hr]
theorem putK_keys {κ : Type} [DecidableEq κ] {kvs : List (κ × V)} {k : κ} {v : V} (hn : (kvs.map (·.1)).Nodup) : ((putK kvs k v).map (·.1)).Nodup ∧ ∀ x, x ∈ (putK kvs k v).map (·.1) ↔ x ∈ kvs.map (·.1) ∨ x = k := by
  unfold putK
  by_cases h : (kvs.any fun kv => decide (kv.1 = k)) = true
  · rw [if_pos h]
    have e : (kvs.map fun kv => if kv.1 = k then (kv.1, v) else kv).map (·.1) = kvs.map (·.1) := by
      rw [List.map_map]
      refine List.map_congr_left fun p _ => ?_
      show (if p.1 = k then (p.1, v) else p).1 = p.1
      split <;> rfl
    rw [e]
    refine ⟨hn, fun x => ⟨.inl, fun hx => ?_⟩⟩
    rcases hx with hx | rfl
    · exact hx
    · obtain ⟨p, hp, hpk⟩ := List.any_eq_true.mp h
      exact List.mem_map.mpr ⟨p, hp, of_decide_eq_true hpk⟩
  · rw [if_neg h, List.map_append]
    have hk : k ∉ kvs.map (·.1) := fun hx => by
      obtain ⟨p, hp, e⟩ := List.mem_map.mp hx
      exact h (List.any_eq_true.mpr ⟨p, hp, decide_eq_true e⟩)
    refine ⟨List.nodup_append.mpr ⟨hn, by simp, fun a ha b hb e => ?_⟩, fun x => by simp⟩
    simp at hb
    subst hb
    exact hk (e ▸ ha)
section
variable {X : Cx} {kx vx tg iter : Expr} {ifs : List Expr} {scope : Scope} {own : List (Str × Nat)} {p pos cpos : Pos} {G : Gd} {ow : List Nat} {fi : Env → Rs (List D)} {t : D → Env → Option Env} {c : Env → Rs Bool} {fk : Env → Rs D} {d0 : D} {n : Nat}
theorem d_lenDcT (own : List (Str × Nat)) (hr : Room n X.A) (hm : X.mg "len" = none) (hN : X.N.Nodup) (hi : PI X tg iter (cI G ow fi)) (ok : BlkOk X.N X.env.scope scope own)
    (hg : ∀ (s : Shared) (H : Hp) (C : Addr) (cl : List (Str × Addr)) (fp : List Addr), PG (X.blk s H scope (compEnvC scope cl C X.env) fp) tg (cG G.mute ow (own.map (·.2)) t)) (ht : ∀ (s : Shared) (H : Hp) (C : Addr) (cl : List (Str × Addr)) (fp : List Addr), PTs (X.blk s H scope (compEnvC scope cl C X.env) fp) ifs (cT G.mute ow c))
    (hk : ∀ (s : Shared) (H : Hp) (C : Addr) (cl : List (Str × Addr)) (fp : List Addr), PE (X.blk s H scope (compEnvC scope cl C X.env) fp) kx (cV G.mute ow 0 fk))
    (he : ∀ (s : Shared) (H : Hp) (C : Addr) (cl : List (Str × Addr)) (fp : List Addr), PE (X.blk s H scope (compEnvC scope cl C X.env) fp) vx (cV G.mute ow 0 fun _ => .ok d0)) (hc : X.calm = true := by rfl) (hx : G.x = none := by rfl) (hgl : Gl X "len" := by rfl) (hs : ∀ x, foldedSetIterable iter X.env x = pure x := by intro _; rfl)
    (hse : starEach [.DictComp kx vx [⟨tg, iter, ifs, 0⟩] scope pos] X.env = (false, eval (.DictComp kx vx [⟨tg, iter, ifs, 0⟩] scope pos) X.env) :: starEach [] X.env := by rfl) (hpl : (backTo cpos (starEach [] X.env)).any (·.1) = false := by rfl) :
    PE X (.Call (.Name "len" p) [.DictComp kx vx [⟨tg, iter, ifs, 0⟩] scope pos] [] cpos) (cV G ow 0 (eLenDcT (own.map (·.2)) fi t c fk)) :=
  (pe_callB call_len_dT hgl hm PySem.boot_len (pa_cons (pe_dcT hc (hr.units0) hN hi ok hg ht hk he hs) pa_nil hse) (by decide) (by decide) hse hpl).impD fun σ H Q ⟨B, γ, I, q⟩ => by
  refine ⟨B, γ, I, q.bind.imp fun ds q J B1 H1 x1 jw => fun Da hDa => ?_⟩
  obtain ⟨ks, hks, q⟩ : ∃ ks, compL t c fk ds (wipeE γ (own.map (·.2))) = .ok ks ∧ RsP G σ B H (oR (cntT ks)) fun d => ∀ v B' H', Ext B H B' H' → DnF G.K B' H' 0 v d → Q v H' := by
    cases hr : compL t c fk ds (wipeE γ (own.map (·.2))) with
    | er _ _ => exact absurd hr compL_er
    | no => rw [hr] at q; exact q.elim
    | ok ks => rw [hr] at q; exact ⟨ks, rfl, q⟩
  obtain ⟨z, ez, q9⟩ := q.oR
  unfold cntT at ez
  cases hall : keysTO ks with
  | none => rw [hall] at ez; cases ez
  | some all =>
    rw [hall] at ez
    replace ez : (if all.length ≤ LIM then some (PyData.int (nubL all).length) else none) = some z := ez
    split at ez
    · rename_i hlim
      cases ez
      refine ⟨fun i m H' => i ≤ ds.length ∧ m = ds.length - i ∧ ∃ (B' : Hp) (kvs : List (List Key × V)) (dn rs : List D) (ln : List (List Key)), Ext B1 H1 B' H' ∧ B' Da = none ∧ H' Da = some (.dT kvs) ∧ compL t c fk (ds.drop i) (wipeE γ (own.map (·.2))) = .ok rs ∧ dn ++ rs = ks ∧ keysTO dn = some ln ∧ (kvs.map (·.1)).Nodup ∧ (∀ x, x ∈ kvs.map (·.1) ↔ x ∈ ln),
        ⟨ds.length, Nat.zero_le _, by omega, B1, [], [], ks, [], .hid x1.s hDa, same_none x1.s hDa, upd_same, hks, rfl, rfl, by simp, by simp⟩, fun i m H' hW => ?_⟩
      obtain ⟨hi, rfl, B', kvs, dn, rs, ln, xx, hb, hl', hcc, hdr, hln, hnd, hmem⟩ := hW
      obtain ⟨j1, j2⟩ := jw B' H' xx.b xx.s i
      by_cases hlt : i < ds.length
      · obtain ⟨jg, jy⟩ := j1 _ (List.getElem?_eq_getElem hlt)
        refine .inr ⟨jg, fun H2 => ∃ (B2 : Hp) (kvs : List (List Key × V)) (dn rs : List D) (ln : List (List Key)), Ext B1 H1 B2 H2 ∧ B2 Da = none ∧ H2 Da = some (.dT kvs) ∧ compL t c fk (ds.drop (i + 1)) (wipeE γ (own.map (·.2))) = .ok rs ∧ dn ++ rs = ks ∧ keysTO dn = some ln ∧ (kvs.map (·.1)).Nodup ∧ (∀ x, x ∈ kvs.map (·.1) ↔ x ∈ ln), fun H2 hN => ⟨ds.length - (i + 1), by omega, by omega, rfl, hN⟩, fun x H2 hy => ?_⟩
        obtain ⟨B2, x2, hx2⟩ := jy x H2 hy
        rw [List.drop_eq_getElem_cons hlt] at hcc
        obtain ⟨γ1, htt, b, hcb, hrest⟩ := compL_cons hcc
        have keepD : ∀ {B3 H3 : Hp}, Ext B' H' B3 H3 → B3 Da = none ∧ H3 Da = some (.dT kvs) := fun y => ⟨y.n Da hb ⟨_, hl', fun _ z => nomatch z⟩, y.h _ _ hl'⟩
        refine ⟨B2, wipeE γ (own.map (·.2)), ds[i], γ1, ((I.mono (x1.trans (xx.trans x2))).mute).wipe hx (own.map (·.2)), hx2, htt, fun σ3 hw3 I3 => ⟨hw3.trans (wipe_wipe _ _), B2, γ1, I3, ?_⟩⟩
        rw [hcb]
        intro B3 H3 x3
        rcases hrest with ⟨rfl, y, ys, hy1, hy2, rfl⟩ | ⟨rfl, hy2⟩
        · rw [if_pos rfl]
          refine ⟨B3, γ1, I3.mono x3, ?_⟩
          rw [hy1]
          intro u B4 H4 x4 hu
          refine ⟨B4, γ1, I3.mono (x3.trans x4), ?_⟩
          intro v B5 H5 x5 hv
          have y5 := ((x2.trans x3).trans x4).trans x5
          obtain ⟨k1, k2⟩ := keepD y5
          have hsp : dn ++ [y] ++ ys = ks := by rw [List.append_assoc]; exact hdr
          obtain ⟨l1, l2, e1, e2, e3⟩ := keysTO_app (dn ++ [y]) ys (hsp ▸ hall)
          obtain ⟨l3, l4, e4, e5, e6⟩ := keysTO_app dn [y] e1
          rw [hln] at e4
          cases e4
          have hlen : kvs.length ≤ ln.length := by
            have := hnd.length_le_of_subset (l₂ := ln) fun z hz => (hmem z).mp hz
            rwa [List.length_map] at this
          replace e5 : (keyT y).bind _ = _ := e5
          cases hky : keyT y with
          | none => rw [hky] at e5; cases e5
          | some k =>
            rw [hky] at e5
            cases e5
            have hku := hky
            unfold keyT at hky
            split at hky
            · rename_i kd
              have hu' : Dn G.K B4 u (.tuple kd) := hu
              cases hu' with
              | tup ha hda =>
                rw [keysO_kV hda hky] at ha
                obtain ⟨n1, n2⟩ := putK_keys (k := k) (v := v) hnd
                have hlt9 : kvs.length < LIM := by
                  have a1 : l1.length + l2.length ≤ LIM := by rw [← List.length_append, ← e3]; exact hlim
                  have a2 : l1.length = ln.length + 1 := by rw [e6]; simp
                  omega
                exact ⟨kvs, k, _, rfl, x5.h _ _ (x4.s _ _ ha), k2, lim_lt hlt9, B5, _, _, ys, l1, (xx.trans y5).wrh hDa k1, k1, upd_same, hy2, hsp, e1, n1, fun w => by rw [n2, hmem, e6]; simp⟩
            · cases hky
        · rw [if_neg (by decide)]
          obtain ⟨k1, k2⟩ := keepD (x2.trans x3)
          exact ⟨B3, kvs, dn, rs, ln, xx.trans (x2.trans x3), k1, k2, hy2, hdr, hln, hnd, hmem⟩
      · refine .inl ⟨j2 (by omega), ?_⟩
        rw [List.drop_eq_nil_of_le (by omega)] at hcc
        cases hcc
        rw [List.append_nil] at hdr
        subst hdr
        rw [hall] at hln
        cases hln
        refine ⟨Da, kvs, rfl, hl', ?_⟩
        have e : kvs.length = (nubL all).length := by rw [← List.length_map (f := (·.1)) (as := kvs)]; exact nub_count hnd hmem
        rw [e]
        exact q9 _ B' H' (x1.trans xx) (Dn.int _)
    · cases ez
end
end DL
set_option Elab.async false
set_option linter.all false
set_option maxRecDepth 100000
set_option maxHeartbeats 4000000
/-! The data layer: sorted(xs), xs a short list of pairs of small numbers; p > q of pairs. -/
namespace DL
open PySem PySem.Spec PyProof.Rows L2

/-- a pair of numbers from 0 below 64 as one number -/
def codP : D → Option Int
  | .tuple [.int a, .int b] => if (0 ≤ a ∧ a < 64) ∧ (0 ≤ b ∧ b < 64) then some (a * 64 + b) else none
  | _ => none
def codsP : List D → Option (List Int)
  | [] => some []
  | d :: ds => (codP d).bind fun c => (codsP ds).map fun cs => c :: cs
def dcdP (c : Int) : D := .tuple [.int (c / 64), .int (c % 64)]
def srtP : List D → Option (List D)
  | [.list ds] => (codsP ds).bind fun cs => if cs.length < 64 then some ((srtI cs).map dcdP) else none
  | _ => none
/-- what a tracked pair says -/
def cdV (H : Hp) : V → Int
  | .ref t => match H t with
    | some (.tup [V.int a, V.int b]) => a * 64 + b
    | _ => 0
  | _ => 0
def IsPr (H : Hp) (x : V) : Prop := ∃ t a b, x = .ref t ∧ H t = some (.tup [V.int a, V.int b]) ∧ (0 ≤ a ∧ a < 64) ∧ (0 ≤ b ∧ b < 64)
theorem IsPr.cd {H : Hp} {x : V} (h : IsPr H x) : ∃ t a b, x = .ref t ∧ H t = some (.tup [V.int a, V.int b]) ∧ (0 ≤ a ∧ a < 64) ∧ (0 ≤ b ∧ b < 64) ∧ cdV H x = a * 64 + b := by
  obtain ⟨t, a, b, rfl, h1, h2, h3⟩ := h
  refine ⟨t, a, b, rfl, h1, h2, h3, ?_⟩
  show (match H t with | some (.tup [V.int a, V.int b]) => a * 64 + b | _ => 0) = _
  rw [h1]
theorem cods_vals {K : PySem.W.Frag} {H : Hp} : ∀ {xs : List V} {ds : List D} {cs : List Int}, DnAll K H xs ds → codsP ds = some cs → (∀ x ∈ xs, IsPr H x) ∧ xs.map (cdV H) = cs
  | _, _, _, .nil, h => by
    cases h
    exact ⟨fun x hx => (by cases hx), rfl⟩
  | _, _, cs, .cons (v := v) (d := d) (ds := rs) a t, h => by
    unfold codsP at h
    cases hc : codP d with
    | none => rw [hc] at h; cases h
    | some c =>
      rw [hc] at h
      cases hr : codsP rs with
      | none => rw [hr] at h; cases h
      | some l =>
        rw [hr] at h
        cases h
        obtain ⟨h1, h2⟩ := cods_vals t hr
        unfold codP at hc
        split at hc
        · rename_i i j
          split at hc
          · rename_i hb
            cases hc
            cases a with
            | tup s a' =>
              rename_i p us
              have e : us = [V.int i, V.int j] := DnAll.ints (ns := [i, j]) a'
              rw [e] at s
              have hp : IsPr H (.ref p) := ⟨p, i, j, rfl, s, hb.1, hb.2⟩
              refine ⟨fun x hx => ?_, ?_⟩
              · rcases List.mem_cons.mp hx with e | e
                · subst e; exact hp
                · exact h1 x e
              · rw [List.map_cons, h2]
                congr 1
                show (match H p with | some (.tup [V.int a, V.int b]) => a * 64 + b | _ => 0) = _
                rw [s]
          · cases hc
        · cases hc
theorem dn_pairs {K : PySem.W.Frag} {H : Hp} : ∀ {ys : List V}, (∀ x ∈ ys, IsPr H x) → DnAll K H ys ((ys.map (cdV H)).map dcdP)
  | [], _ => .nil
  | y :: ys, h => by
    refine .cons ?_ (dn_pairs fun x hx => h x (List.mem_cons_of_mem _ hx))
    obtain ⟨t, a, b, rfl, h1, h2, h3, h4⟩ := (h y List.mem_cons_self).cd
    have e : dcdP (cdV H (.ref t)) = .tuple ([a, b].map PyData.int) := by
      rw [h4]
      unfold dcdP
      rw [show (a * 64 + b) / 64 = a by omega, show (a * 64 + b) % 64 = b by omega]
      rfl
    rw [e]
    exact .tup h1 (DnAll.of_ints [a, b])
section
variable {X : Cx} {e : Expr} {es : List Expr} {p pos : Pos} {G : Gd} {ow : List Nat} {fs : Env → Rs (List D)}
theorem n_sortedP (hm : X.mg "sorted" = none) (ha : PA X (e :: es) (cA G ow 1 fs)) (hg : Gl X "sorted" := by rfl) (he : starEach (e :: es) X.env = (false, eval e X.env) :: starEach es X.env := by rfl) (hpl : (backTo pos (starEach es X.env)).any (·.1) = false := by rfl) (hK : X.K = G.K := by rfl) :
    PE X (.Call (.Name "sorted" p) (e :: es) [] pos) (cN G ow fun γ => (fs γ).bind fun ds => oR (srtP ds)) :=
  (pe_callB (hK ▸ cr_sortT (d := 2) (B := 64) (by decide)) hg hm (by decide +kernel) ha (by decide) (by decide) he hpl).impD fun σ H Q ⟨B, γ, I, q⟩ => ⟨B, γ, I, q.bind.imp fun ds q vs B1 H1 x1 hvs => by
    obtain ⟨z, ez, q⟩ := q.oR
    unfold srtP at ez
    split at ez
    · rename_i es'
      cases hi : codsP es' with
      | none => rw [hi] at ez; cases ez
      | some cs =>
        rw [hi] at ez
        replace ez : (if cs.length < 64 then some ((srtI cs).map dcdP) else none) = some z := ez
        split at ez
        · rename_i hlt
          cases ez
          cases hvs with
          | cons h t =>
            cases t
            obtain ⟨p', us, rfl, h1, h2⟩ := DnF.items x1.s h
            obtain ⟨k1, k2⟩ := cods_vals (DnAll.of_paired h2) hi
            have hl : us.length < 64 := by rw [← List.length_map (f := cdV B1), k2]; exact hlt
            refine ⟨p', us, rfl, .inl h1, hl, fun x hx => ?_, fun ys r hp hs hr => ?_⟩
            · obtain ⟨t, a, b, rfl, g1, g2, g3, g4⟩ := (k1 x hx).cd
              refine ⟨[a, b], ⟨t, rfl, .inl (.inl (x1.s _ _ g1))⟩, rfl, fun m hm => ?_⟩
              simp only [List.mem_cons, List.not_mem_nil, or_false] at hm
              rcases hm with rfl | rfl
              · exact g2
              · exact g3
            · have ky : ∀ y ∈ ys, IsPr B1 y := fun y hy => k1 y (hp.mem_iff.mp hy)
              have e9 : ys.map (cdV B1) = srtI cs := by
                refine sorted_uniq ?_ ?_ (srtI_sorted cs)
                · rw [← k2]
                  exact (hp.map _).trans (srtI_perm _).symm
                · rw [List.pairwise_map]
                  refine List.Pairwise.imp_of_mem ?_ hs
                  intro x y hx hy hxy
                  obtain ⟨t, a, b, rfl, g1, g2, g3, g4⟩ := (ky x hx).cd
                  obtain ⟨t', a', b', rfl, g1', g2', g3', g4'⟩ := (ky y hy).cd
                  have := hxy [a, b] [a', b'] ⟨t, rfl, .inl (.inl (x1.s _ _ g1))⟩ ⟨t', rfl, .inl (.inl (x1.s _ _ g1'))⟩
                  rw [code_pair, code_pair] at this
                  rw [g4, g4']
                  exact this
              rw [← e9] at q
              exact q r _ B1 _ (x1.trans (.hid x1.s hr)) (x1.h.free hr) (same_none x1.s hr) upd_same (dn_pairs ky)
        · cases ez
    · cases ez⟩
end
/-! p > q -/
def gtT : D → D → Option D
  | .tuple [.int a, .int b], .tuple [.int c, .int d] => some (.bool (if a = c then decide (d < b) else decide (c < a)))
  | _, _ => none
def rGtP (K : PySem.W.Frag) : R2 := fun x y H Q => ∃ (p q : Addr) (a b c d : Int), x = .ref p ∧ y = .ref q ∧ SqT K H p ([a, b].map V.int) ∧ SqT K H q ([c, d].map V.int) ∧ Q (.bl (if a = c then decide (d < b) else decide (c < a))) H
theorem op_gtP {X : Cx} (hu : X.A.units < cLine) : OpR X (compareOp .Gt) (rGtP X.K) := by
  intro pins s σ H x y v u Q I rx ry h
  obtain ⟨p, q, a, b, c, d, rfl, rfl, ha, hb, h⟩ := h
  cases rx
  cases ry
  obtain ⟨its, r1, p1, _⟩ := I.tuple ha
  obtain ⟨its2, r2, p2, _⟩ := I.tuple hb
  have i1 : IntsAre its [a, b] := Vals.ints r1
  have i2 : IntsAre its2 [c, d] := Vals.ints r2
  have e1 : its.toArray.size = 2 := by rw [List.size_toArray]; exact i1.length
  have e2 : its2.toArray.size = 2 := by rw [List.size_toArray]; exact i2.length
  have at1 : ∀ j (h1 : j < its.toArray.size), ∃ t, its.toArray[j] = .int (([a, b] : List Int).getD j 0) t := fun j h1 => PyProof.Rows.IntsAre.int_at i1 _ _ (by simp at h1; simp [h1])
  have at2 : ∀ j (h1 : j < its2.toArray.size), ∃ t, its2.toArray[j] = .int (([c, d] : List Int).getD j 0) t := fun j h1 => PyProof.Rows.IntsAre.int_at i2 _ _ (by simp at h1; simp [h1])
  have R := PySem.SeqAt.RcOp.tuples_gt (A := X.A) (s := s) (e := fun j => decide (([a, b] : List Int).getD j 0 = ([c, d] : List Int).getD j 0)) (r := fun j => decide (([c, d] : List Int).getD j 0 < ([a, b] : List Int).getD j 0)) p1 p2 hu (fun j h1 h2 => by
    obtain ⟨t, et⟩ := at1 j h1
    obtain ⟨t', et'⟩ := at2 j h2
    rw [et, et']
    have z : (([a, b] : List Int).getD j 0 == ([c, d] : List Int).getD j 0) = decide (([a, b] : List Int).getD j 0 = ([c, d] : List Int).getD j 0) := by
      by_cases q : ([a, b] : List Int).getD j 0 = ([c, d] : List Int).getD j 0
      · rw [decide_eq_true q]; exact beq_iff_eq.mpr q
      · rw [decide_eq_false q]; exact beq_eq_false_iff_ne.mpr q
    rw [← z]
    exact SeqAt.EqAt.int_int _ _ _ _) (fun j h1 h2 _ => by
    obtain ⟨t, et⟩ := at1 j h1
    obtain ⟨t', et'⟩ := at2 j h2
    rw [et, et']
    exact fun _ _ _ _ h => PyProof.Rows.gt_int h)
  rw [e1, e2] at R
  have hv : PySem.SeqAt.firstLt (fun j => decide (([a, b] : List Int).getD j 0 = ([c, d] : List Int).getD j 0)) (fun j => decide (([c, d] : List Int).getD j 0 < ([a, b] : List Int).getD j 0)) (decide (2 > 2)) (List.range (min 2 2)) = if a = c then decide (d < b) else decide (c < a) := by
    show (if decide (a = c) = true then (if decide (b = d) = true then decide (2 > 2) else decide (d < b)) else decide (c < a)) = _
    by_cases h1 : a = c
    · rw [if_pos (decide_eq_true h1), if_pos h1]
      by_cases h2 : b = d
      · rw [if_pos (decide_eq_true h2)]
        subst h2
        simp
      · rw [if_neg (by simpa using h2)]
    · rw [if_neg (by simpa using h1), if_neg h1]
  rw [hv] at R
  have z : wpAny (model X.prog X.w) X.A (compareOp .Gt (.ref p) (.ref q)) (EP X pins σ Q) X.xe s := R X.prog X.w X.xe (EP X pins σ Q) ⟨.bl _, H, I, rfl, h⟩
  exact z
theorem hr_gtP {K : PySem.W.Frag} : HR K (rGtP K) gtT := by
  refine ⟨?_⟩; intro B H x y d e z Q s hx hy hz q
  unfold gtT at hz
  split at hz
  · rename_i i j k l
    cases hz
    obtain ⟨p, us, rfl, h1, h2⟩ := hx.tups s
    obtain ⟨p', us', rfl, h1', h2'⟩ := hy.tups s
    have e1 := DnAll.ints (ns := [i, j]) h2
    have e2 := DnAll.ints (ns := [k, l]) h2'
    rw [e1] at h1
    rw [e2] at h1'
    exact ⟨p, p', i, j, k, l, rfl, rfl, h1, h1', q _ B H (.refl s) (.bl _)⟩
  · cases hz
def gtA (d e : D) : Option D := match gtD d e with
  | some z => some z
  | none => gtT d e
theorem gtA_or {d e z : D} (h : gtA d e = some z) : gtD d e = some z ∨ gtT d e = some z := by
  unfold gtA at h
  cases hg : gtD d e with
  | some w => rw [hg] at h; exact .inl h
  | none => rw [hg] at h; exact .inr h
section
variable {X : Cx} {a b : Expr} {pos : Pos} {G : Gd} {ow : List Nat} {f g : Env → Rs D}
theorem t_gtA {n : Nat} (hr : Room n X.A) (ha : PE X a (cV G ow 1 f)) (hb : PE X b (cV G ow 1 g)) (hK : X.K = G.K := by rfl) : PT X (.Compare a [.Gt] [b] pos) (cT G ow (b1 (b2 f g gtA) boolO)) := by
  have h : HP G.K (fun x y H Q => rI0 (fun i j => .bl (decide (j < i))) x y H Q ∨ rGtP G.K x y H Q) fun d e z => gtA d e = some z := (HP.or (hr_I0 (F := fun i j => .bool (decide (j < i))) fun _ _ _ => .bl _) hr_gtP).impP fun _ _ _ h => gtA_or h
  exact t_cmp h (OpR.or op_gt (hK ▸ op_gtP hr.units0)) (nomark _) ha hb
end
end DL
set_option Elab.async false
set_option linter.all false
set_option maxRecDepth 100000
set_option maxHeartbeats 4000000
/-! The data layer: x.extend(y), x and y own lists; x[k] op= e. -/
namespace DL
open PySem PySem.Spec PyProof.Rows L2
theorem get_listP {X : Cx} : PGet X (rIxL X.K) := by
  intro pins s σ H o i ov iv Q I ro ri h
  obtain ⟨p, xs, k, z, rfl, rfl, hq, he, q⟩ := h
  cases ro
  obtain ⟨t, rfl⟩ := ri
  obtain ⟨its, r, pl, hz⟩ := I.list hq
  obtain ⟨j, h1, h2, h3, h4, h5⟩ := atI_get he
  obtain ⟨w, ew, rw'⟩ := r.get h2
  have hl := r.length
  have hn := line63
  have fin : EP X pins σ Q w s := ⟨z, H, I, rw', q⟩
  by_cases h0 : 0 ≤ k
  · have hj : k.toNat = j := by
      rw [seqIndex_of h0 h5] at h1
      exact Option.some.inj h1
    exact wpAny_getItem_list pl.isList h0 (by omega) (by rw [hj]; simpa using ew) fin
  · have hj : (k + (its.toArray.size : Int)).toNat = j := by
      rw [seqIndex_neg (by omega) h4] at h1
      rw [List.size_toArray, ← hl]
      exact Option.some.inj h1
    exact wpAny_getItem_list_neg pl.isList (by omega) (by rw [List.size_toArray] <;> omega) (by omega) (by rw [hj]; simpa using ew) fin
def rExtendR : V → List V → Hp → VK → Prop := fun x vs H Q => ∃ l b xs zs, x = .ref l ∧ vs = [.ref b] ∧ H l = some (.lst xs) ∧ Rd H b (.lst zs) ∧ xs.length + zs.length ≤ sizeLine ∧ Q .non (upd H l (.lst (xs ++ zs)))
theorem mt_extendR {X : Cx} : MtM X "list.extend" rExtendR := by
  rintro pins s σ H x vs v us Q I rx rv ⟨l, b, xs, zs, rfl, rfl, m1, m2, hle, q⟩
  cases rx
  obtain ⟨u, rfl, ru⟩ := rv.one
  cases ru
  obtain ⟨_, as, n, ra, la, ea⟩ := I.lstM m1
  obtain ⟨_, bs, k, rb, lb, eb⟩ := Inv.rdM I m2
  have small : as.toArray.size + bs.toArray.size ≤ sizeLine := by simp only [List.size_toArray]; omega
  have short : ¬ (!as.toArray.isEmpty && Builtin.List.listTooLong (as.toArray.size + bs.toArray.size)) = true := by rw [notLongL small]; simp
  have road := AutoSeq1.list_extend_list_list_0 l as.toArray n b bs.toArray k short (by simp only [List.size_toArray]; omega) (by omega)
  refine call_meets F.slot_list_extend ⟨_, ea, rfl⟩ F.entry_list_extend (F.args_list_extend_2 _ _) road ⟨ea, eb, ?_⟩
  have more : (xs ++ zs).length ≤ sizeLine := by rw [List.length_append]; exact hle
  exact ⟨.non, upd H l (.lst (xs ++ zs)), I.lset (its' := as ++ bs) m1 ea (by simp) (ra.append rb) more, rfl, q⟩
/-! x * k, x a list that is kept -/
def rRepR : R2 := fun x y H Q => ∃ l k xs, x = .ref l ∧ y = .int k ∧ Rd H l (.lst xs) ∧ 0 ≤ k ∧ k ≤ 1000000 ∧ xs.length * k.toNat ≤ sizeLine ∧ ∀ p, H p = none → Q (.ref p) (upd H p (.lst (List.replicate k.toNat xs).flatten))
theorem fold_arr (m : Nat) (as : List Value) : ∀ acc : List Value, List.foldl (fun a b => a ++ b) acc.toArray (List.replicate m as.toArray) = (acc ++ (List.replicate m as).flatten).toArray := by
  induction m with
  | zero => intro acc; simp
  | succ m ih =>
    intro acc
    rw [List.replicate_succ, List.foldl_cons, List.replicate_succ, List.flatten_cons, ← List.append_assoc, ← ih (acc ++ as)]
    congr 1
    simp
theorem op_repR {X : Cx} : OpR X (binaryOp .Mult) rRepR := by
  rintro pins s σ H x y v u Q I rx ry ⟨l, k, xs, rfl, rfl, m1, k0, k1, hle, q⟩
  cases rx
  obtain ⟨t, rfl⟩ := ry
  obtain ⟨_, as, n, ra, la, ea⟩ := Inv.rdM I m1
  have small : as.toArray.size * k.toNat ≤ sizeLine := by simp only [List.size_toArray]; rw [← la]; exact hle
  have fits : ¬ (!Builtin.List.listFitsIndex k) = true := by rw [fitsIndex_both (by omega) (by omega)]; simp
  have cap : ¬ as.toArray.size * k.toNat > (2 ^ 63 - 1) / 8 := fun z => by
    have : (sizeLine : Nat) ≤ (2 ^ 63 - 1) / 8 := by decide
    omega
  have short : ¬ Builtin.List.listTooLong (as.toArray.size * k.toNat) = true := by rw [notLongL small]; simp
  have made : List.foldl (fun a b => a ++ b) #[] (List.replicate (if as.toArray.isEmpty = true then 0 else k.toNat) as.toArray) = (List.replicate k.toNat as).flatten.toArray := by
    have f := fold_arr (if as.toArray.isEmpty = true then 0 else k.toNat) as []
    rw [List.nil_append] at f
    rw [f]
    cases as with
    | nil => simp
    | cons a r => simp
  have road := AutoListH.list___mul___list_int_3 l as.toArray n k t fits cap short
  have back := int___rmul___int_list k t l as.toArray n
  rw [made] at road
  refine wpAny_binaryOp_repeat_ref (T := "list") (U := "int") (by decide) ⟨_, ea, rfl⟩ (fun z => typeIs_int z k t) noFill_list_mul F.fills_int_mul F.slot_int_rmul repeat_list F.slot_int_index.lookup ?_
  refine call_meets F.slot_int_rmul (typeIs_int s k t) F.entry_int_rmul (F.args_int_rmul_2 _ _) back ⟨ea, rfl, ⟨_, ea, rfl⟩, ?_⟩
  refine call_meets F.slot_list_mul ⟨_, ea, rfl⟩ F.entry_list_mul (F.args_list_mul_2 _ _) road ⟨ea, ?_⟩
  have more : (List.replicate k.toNat xs).flatten.length ≤ sizeLine := by rw [PyProof.Rows.lm_len_rep_flat, Nat.mul_comm]; exact hle
  exact ⟨.ref _, _, I.lnew (t' := s.toks) (ra.rep k.toNat) more, rfl, q _ I.fresh⟩
def repL : D → D → Option D
  | .list ds, .int k => if 0 ≤ k ∧ k ≤ 1000000 ∧ ds.length * k.toNat ≤ LIM then some (.list (List.replicate k.toNat ds).flatten) else none
  | _, _ => none
theorem hr_repL {K : PySem.W.Frag} : HR K rRepR repL := by
  refine ⟨?_⟩; intro B H x y d e z Q s hx hy hz q
  unfold repL at hz
  split at hz
  · rename_i ds k
    split at hz
    · rename_i hc
      cases hz
      obtain ⟨p, us, rfl, h1, h2⟩ := hx.items s
      have h3 : DnAll K B us ds := DnAll.of_paired (Paired.mapP h2 fun _ _ h => h)
      exact ⟨p, k, us, rfl, hy.int, h1, hc.1, hc.2.1, by rw [h3.length]; exact lim_le hc.2.2, fun l hl => q _ (upd B l (.lst (List.replicate k.toNat us).flatten)) _ (.new s hl) (.lst (.inl upd_same) ((h3.rep _).mono (same_new (same_none s hl))))⟩
    · cases hz
  · cases hz
def mulAD (d e : D) : Option D := match mulD d e with
  | some z => some z
  | none => repL d e
theorem mulAD_or {d e z : D} (h : mulAD d e = some z) : mulD d e = some z ∨ repL d e = some z := by
  unfold mulAD at h
  cases hg : mulD d e with
  | some w => rw [hg] at h; exact .inl h
  | none => rw [hg] at h; exact .inr h
theorem d_mulA {X : Cx} {a b : Expr} {pos : Pos} {G : Gd} {ow : List Nat} {f g : Env → Rs D} (ha : PE X a (cV G ow 1 f)) (hb : PE X b (cV G ow 1 g)) : PE X (.BinOp a .Mult b pos) (cV G ow 0 (b2 f g mulAD)) :=
  d_bin ((HP.or (hr_I (Cb := mulOk) (F := fun i j => .int (i * j)) (g := fun i j => .int (i * j)) (C := CMul) (fun i j h => by have h := of_decide_eq_true h; exact h) fun _ _ _ => .int _) hr_repL).impP fun _ _ _ h => mulAD_or h) (OpR.or op_mul op_repR) ha hb
section
variable {X : Cx} {e : Expr} {pos : Pos} {G : Gd} {ow owL : List Nat} {fe : Env → Rs D}
/-- what a list holds -/
def lstX : D → Option (List D)
  | .list ds => some ds
  | _ => none
/-- x.extend(e) -/
theorem s_extendV {x : Str} {p1 p2 p3 : Pos} (i : Nat) (he : PE X e (cV G ow 1 fe)) (hk : ow.getD i 0 = 1 := by rfl) (hi : X.N[i]? = some x := by rfl) (hv : Vis X.env.scope x := by first | exact Or.inl rfl | exact Or.inr (Or.inl rfl) | exact Or.inr (Or.inr rfl)) (hg : G.x = none := by rfl)
    (hd : (x == ("__debug__" : Str)) = false := by decide) (hcd : (x == ("__classdict__" : Str)) = false := by decide)
    (hbase : attributeBase (.Name x p1) "extend" X.env (eval (.Name x p1) X.env) = eval (.Name x p1) X.env := by rfl) (hst : starEach [e] X.env = (false, eval e X.env) :: starEach [] X.env := by rfl)
    (h1 : PE X (.Name x p1) (tVar i) → PA X [e] (tCons (cV G ow 1 fe) tNil) → PE X (.Call (.Attribute (.Name x p1) "extend" p2) [e] [] p3) (tBM X.K "list" rExtendR (tVar i) (tCons (cV G ow 1 fe) tNil)) := by
      exact fun h1 h2 => pe_bm PySem.F.plainAttrs_list PySem.F.slot_list_extend PySem.F.type_list_extend mt_extendR h1 h2)
    (hs : swapsWith (.Call (.Attribute (.Name x p1) "extend" p2) [e] [] p3) none pos.line X.env = pure false := by rfl) :
    PS X (.Expr (.Call (.Attribute (.Name x p1) "extend" p2) [e] [] p3) pos) (cS G ow ow owL (extS i (b1 fe lstX))) :=
  (ps_expr (h1 (pe_var hi hv hd hcd) (pa_cons he pa_nil hst)) hs).impD fun J σ H ⟨B, γ, I, q⟩ => by
    obtain ⟨ds, hgi, q⟩ := (OutP.lift I q).bind.lsE
    obtain ⟨p, xs, e1, e2, _⟩ := I.wr hg hk hgi
    refine ⟨.ref p, e1, .inl ⟨rfl, xs, .inl (.inl e2)⟩, B, γ, I, q.bind.bind.imp fun d q r B1 H1 x1 hr => ?_⟩
    obtain ⟨es, ees, q⟩ := q.oR
    obtain ⟨z, ez, q⟩ := q.oR
    unfold lstX at ees
    split at ees <;> try cases ees
    obtain ⟨p', xs', e1', e2', e3', wr⟩ := (I.mono x1).wr hg hk hgi
    rw [e1] at e1'
    cases e1'
    obtain ⟨r', ys, rfl, g1, g2⟩ := hr.items x1.s
    have g3 := DnAll.of_paired g2
    split at ez
    · rename_i hlt
      cases ez
      exact ⟨p, r', xs', ys, rfl, rfl, e2', g1, by rw [e3'.length, g3.length]; exact lim_le hlt, q B1 σ _ x1.b (wr _ _ (e3'.append g3))⟩
    · cases ez
/-- x[k] op= e -/
def atK (ds : List D) : D → Option D
  | .int n => atI ds n
  | _ => none
def augPut (i : Nat) (fi fe : Env → Rs D) (F : D → D → Option D) : Env → Out := fun γ => liftS ((lsE γ i).bind fun ds => (fi γ).bind fun k => (oR (atK ds k)).bind fun d => (fe γ).bind fun z => (oR (F d z)).bind fun w => oR (putL ds w k)) γ fun es => .nx (γ.set i (some (.list es)))
theorem s_augS {x : Str} {ix : Expr} {p1 p2 : Pos} {op : Operator} {r : R2} {F : D → D → Option D} {fi : Env → Rs D} (i : Nat) (hr : HR G.K r F) (ho : OpR X (inplaceOp op) r) (hix : PE X ix (cV G ow 1 fi)) (he : PE X e (cV G ow 1 fe)) (hk : ow.getD i 0 = 1 := by rfl) (hi : X.N[i]? = some x := by rfl)
    (hv : Vis X.env.scope x := by first | exact Or.inl rfl | exact Or.inr (Or.inl rfl) | exact Or.inr (Or.inr rfl)) (hg : G.x = none := by rfl)
    (hd : (x == ("__debug__" : Str)) = false := by decide) (hcd : (x == ("__classdict__" : Str)) = false := by decide) (hK : X.K = G.K := by rfl)
    (ha : ∀ ov iv new, augStore ix ov iv new = (do holding [new, ov, iv] (setItem ov iv new); release [new, ov, iv] []; pure .next) := by intros; rfl) :
    PS X (.AugAssign (.Subscript (.Name x p1) ix p2) op e pos) (cS G ow ow owL (augPut i fi fe F)) :=
  (ps_augS (tip := r) (pe_var hi hv hd hcd) hix (hK ▸ get_listP) he ho set_list ha).impD fun J σ H ⟨B, γ, I, q⟩ => by
    obtain ⟨ds, hgi, q⟩ := (OutP.lift I q).bind.lsE
    obtain ⟨p, xs, e1, e2, e3, _⟩ := I.wr hg hk hgi
    refine ⟨.ref p, e1, B, γ, I, q.bind.imp fun k q u B1 H1 x1 hu => ?_⟩
    obtain ⟨d, ed, q⟩ := q.bind.oR
    obtain ⟨p', xs', e1', e2', e3', _⟩ := (I.mono x1).wr hg hk hgi
    rw [e1] at e1'
    cases e1'
    unfold atK at ed
    split at ed <;> try cases ed
    rename_i n _
    obtain ⟨v, a1, a2⟩ := atI_len e3'.paired ed
    refine ⟨p, xs', n, v, rfl, hu.int, .inl (.inl e2'), a1, B1, γ, I.mono x1, q.bind.mono x1 fun z q y B2 H2 x2 hy => ?_⟩
    obtain ⟨w, ew, q⟩ := q.bind.oR
    refine hr.run x2.s (DnF.of (a2.mono x2.b)) hy ew fun w' B3 H3 x3 hw' => ?_
    obtain ⟨es, ees, q⟩ := q.oR
    obtain ⟨p'', xs'', e1'', e2'', e3'', wr⟩ := (I.mono ((x1.trans x2).trans x3)).wr hg hk hgi
    rw [e1] at e1''
    cases e1''
    replace ees : (ixN ds.length n).map (fun j => ds.set j w) = some es := ees
    cases hj : ixN ds.length n with
    | none => rw [hj] at ees; cases ees
    | some j =>
      rw [hj] at ees
      cases ees
      exact ⟨p, xs'', n, j, rfl, hu.int, e2'', by rw [e3''.length]; exact hj, q B3 σ _ ((x1.trans x2).trans x3).b (wr _ _ (e3''.set hw' j))⟩
end
end DL
set_option Elab.async false
set_option linter.all false
set_option maxRecDepth 100000
set_option maxHeartbeats 4000000
/-! The data layer: dicts of a def's own that are locked for good, and walked. -/
namespace DL
open PySem PySem.Spec PyProof.Rows L2
abbrev lkD (es : List (D × D)) : D := .dict [(.bool true, .dict es)]
def lkE (i : Nat) (γ : Env) : Option Env := match γ[i]? with
  | some (some (.dict es)) => some (γ.set i (some (lkD es)))
  | _ => none
/-- the statement runs with the dict of slot i locked for good -/
def lkS (i : Nat) (f : Env → Out) : Env → Out := fun γ => match lkE i γ with
  | some γ' => f γ'
  | none => .no
section
variable {G : Gd} {ow : List Nat} {B H : Hp} {σ : L2.St} {γ : Env}
theorem EnvR.lock (I : EnvR G ow B H σ γ) {i k : Nat} {d : D} (hx : G.x = none) (hk : ow.getD i 0 = k) (h34 : k = 3 ∨ k = 4) (hg : γ[i]? = some (some d)) :
    ∃ p u es, d = .dict es ∧ H p = some u ∧ Mut (some u) ∧ ∀ od, ∃ B', EnvR G (ow.set i 0) B' (upd H p (.frz od u)) σ (γ.set i (some (lkD es))) ∧ Same B B' := by
  obtain ⟨own, h1, h2, h3⟩ := I.v
  obtain ⟨v, e, r⟩ := h3 i _ hg
  rw [hk] at r
  obtain ⟨p, u, es, rfl, ed, hop, hu, mu, new⟩ : ∃ p u es, v = .ref p ∧ d = .dict es ∧ own i p ∧ H p = some u ∧ Mut (some u) ∧ ∀ od B', Same B B' → B' p = some (.frz od u) → Dn G.K B' (.ref p) (lkD es) := by
    rcases h34 with rfl | rfl
    · obtain ⟨p, kvs, es, a1, a2, a3, a4, a5⟩ := r
      exact ⟨p, _, es, a1, a2, a3, a4, trivial, fun od B' s e => .lkk e (DnKv.mono s a5)⟩
    · obtain ⟨p, kvs, es, a1, a2, a3, a4, a5⟩ := r
      exact ⟨p, _, es, a1, a2, a3, a4, trivial, fun od B' s e => .lkt e (DnKt.mono s a5)⟩
  subst ed
  obtain ⟨b1, b2, b3⟩ := h1 i p hop
  refine ⟨p, u, es, rfl, hu, mu, fun od => ?_⟩
  have sB : Same B (upd B p (.frz od u)) := same_new b1
  have sH : Same (upd B p (.frz od u)) (upd H p (.frz od u)) := fun a o z => by
    by_cases y : a = p
    · subst y; rw [upd_same] at z ⊢; exact z
    · rw [upd_ne y] at z ⊢; exact I.s a o z
  refine ⟨upd B p (.frz od u), ⟨sH, ⟨I.e.b.trans sB, fun a o z => ?_, sH, fun a z1 z2 => ?_⟩, by rw [List.length_set, I.len], (fun t z => by rw [hx] at z; cases z), fun j a => j ≠ i ∧ own j a, fun j a hj => ?_, fun j l a hj hl => h2 j l a hj.2 hl.2, fun j e' q => ?_⟩, sB⟩
  · have : a ≠ p := fun y => by subst y; rw [b2] at z; cases z
    rw [upd_ne this]; exact I.e.h a o z
  · have : a ≠ p := fun y => by subst y; exact z2.ne b2
    rw [upd_ne this]; exact I.e.n a z1 z2
  · have ne : a ≠ p := fun y => by subst y; exact hj.1 (h2 j i a hj.2 hop)
    obtain ⟨c1, c2, c3⟩ := h1 j a hj.2
    exact ⟨by rw [upd_ne ne]; exact c1, c2, c3.upd ne⟩
  · by_cases z : j = i
    · subst z
      have hj : j < γ.length := I.lt hg
      rw [List.getElem?_set_self hj] at q
      cases q
      refine ⟨_, e, ?_⟩
      rw [ow_set_self _ _ _ (.inr rfl)]
      exact new od _ sB upd_same
    · rw [List.getElem?_set_ne (Ne.symm z)] at q
      obtain ⟨w, e1, r⟩ := h3 j e' q
      refine ⟨w, e1, ?_⟩
      rw [ow_set_ne _ _ z]
      exact (r.keepH (H' := upd H p (.frz od u)) fun a ha => upd_ne fun y => by subst y; exact z (h2 j i _ ha hop)).monoB sB fun a ha => ⟨z, ha⟩
/-- an own thing goes from slot j to slot i -/
theorem EnvR.mv (I : EnvR G ow B H σ γ) {i j k : Nat} {d : D} (hx : G.x = none) (hk : ow.getD j 0 = k) (hij : i ≠ j) (hi : i < ow.length) (hg : γ[j]? = some (some d)) :
    ∃ v, σ[j]? = some (some v) ∧ EnvR G ((ow.set j 0).set i k) B H (σ.set i (some v)) ((γ.set j none).set i (some d)) := by
  obtain ⟨own, h1, h2, h3⟩ := I.v
  obtain ⟨v, e, r⟩ := h3 j _ hg
  refine ⟨v, e, I.s, I.e, by rw [List.length_set, List.length_set, List.length_set, I.len], (fun t z => by rw [hx] at z; cases z), fun l a => if l = i then own j a else if l = j then False else own l a, fun l a hl => ?_, fun l m a hl hm => ?_, fun l e' q => ?_⟩
  · dsimp only at hl
    split at hl
    · exact h1 j a hl
    · split at hl
      · exact hl.elim
      · exact h1 l a hl
  · dsimp only at hl hm
    split at hl
    · rename_i el
      split at hm
      · rename_i em; rw [el, em]
      · split at hm
        · exact hm.elim
        · rename_i em; exact absurd (h2 j m a hl hm).symm em
    · split at hl
      · exact hl.elim
      · rename_i el2
        split at hm
        · exact absurd (h2 l j a hl hm) el2
        · split at hm
          · exact hm.elim
          · exact h2 l m a hl hm
  · by_cases z : l = i
    · subst z
      have hl : l < (γ.set j none).length := by
        by_cases y : l < (γ.set j none).length
        · exact y
        · rw [List.getElem?_eq_none (by rw [List.length_set]; omega)] at q; cases q
      rw [List.getElem?_set_self hl] at q
      cases q
      rw [List.length_set] at hl
      refine ⟨v, List.getElem?_set_self (by rw [← I.len]; exact hl), ?_⟩
      rw [ow_set_self _ _ _ (.inl (by rw [List.length_set]; exact hi)), ← hk]
      exact r.monoB (.refl _) fun a ha => by dsimp only; rw [if_pos rfl]; exact ha
    · rw [List.getElem?_set_ne (Ne.symm z)] at q
      by_cases y : l = j
      · subst y
        rw [List.getElem?_set_self (I.lt hg)] at q
        cases q
      · rw [List.getElem?_set_ne (Ne.symm y)] at q
        obtain ⟨w, e1, r⟩ := h3 l e' q
        refine ⟨w, by rw [List.getElem?_set_ne (Ne.symm z)]; exact e1, ?_⟩
        rw [ow_set_ne _ _ z, ow_set_ne _ _ y]
        exact r.monoB (.refl _) fun a ha => by dsimp only; rw [if_neg z, if_neg y]; exact ha
end
section
variable {X : Cx} {G : Gd} {ow owN owL : List Nat} {st : Stmt} {f : Env → Out}
theorem s_lk (i : Nat) (h : PS X st (cS G (ow.set i 0) owN owL f)) (h34 : ow.getD i 0 = 3 ∨ ow.getD i 0 = 4 := by first | exact .inl rfl | exact .inr rfl) (hx : G.x = none := by rfl) : PS X st (cS G ow owN owL (lkS i f)) := ⟨fun pins s σ H J I q => by
  obtain ⟨B, γ, E, q⟩ := q
  unfold lkS lkE at q
  split at q
  · rename_i γ' hγ
    split at hγ
    · rename_i es hg
      cases hγ
      obtain ⟨p, u, es', e1, hu, mu, hl⟩ := E.lock hx rfl h34 hg
      cases e1
      obtain ⟨od, I1⟩ := I.lock hu mu
      obtain ⟨B', E', s'⟩ := hl od
      exact h.run pins s σ _ J I1 ⟨B', _, E', OutP.mono s' q⟩
    · cases hγ
  · exact q.elim⟩
end
/-! walking it -/
theorem dn_kD {K : PySem.W.Frag} {B : Hp} (k : Key) : Dn K B (kV k) (kD k) := by cases k <;> constructor
theorem dn_kDs {K : PySem.W.Frag} {B : Hp} : ∀ ks : List Key, DnAll K B (ks.map kV) (ks.map kD)
  | [] => .nil
  | k :: ks => .cons (dn_kD k) (dn_kDs ks)
theorem Ext.show {B H : Hp} {q : Addr} {xs : List V} (s : Same B H) (hq : H q = some (.tup xs)) : ∃ B2, Ext B H B2 H ∧ B2 q = some (.tup xs) := by
  cases hb : B q with
  | some o =>
    have := s q o hb
    rw [hq] at this
    cases this
    exact ⟨B, .refl s, hb⟩
  | none =>
    refine ⟨upd B q (.tup xs), ⟨same_new hb, .refl _, fun a u z => ?_, fun a z1 z2 => ?_⟩, upd_same⟩
    · by_cases y : a = q
      · subst y; rw [upd_same] at z; rw [hq]; exact z
      · rw [upd_ne y] at z; exact s a u z
    · have : a ≠ q := fun y => by
        subst y
        obtain ⟨o, e, n⟩ := z2
        rw [hq] at e
        cases e
        exact n _ rfl
      rw [upd_ne this]; exact z1
theorem kv_at {K : PySem.W.Frag} {B : Hp} : ∀ {kvs : List (Key × V)} {es : List (D × D)} {i : Nat} {k : Key} {v : V}, DnKv K B kvs es → kvs[i]? = some (k, v) → ∃ d, es[i]? = some (kD k, d)
  | _, _, 0, _, _, .cons a t, h => by cases h; exact ⟨_, rfl⟩
  | _, _, i + 1, _, _, .cons a t, h => kv_at (i := i) t (by simpa using h)
theorem kt_at {K : PySem.W.Frag} {B : Hp} : ∀ {kvs : List (List Key × V)} {es : List (D × D)} {i : Nat} {k : List Key} {v : V}, DnKt K B kvs es → kvs[i]? = some (k, v) → ∃ d, es[i]? = some (.tuple (k.map kD), d)
  | _, _, 0, _, _, .cons a t, h => by cases h; exact ⟨_, rfl⟩
  | _, _, i + 1, _, _, .cons a t, h => kt_at (i := i) t (by simpa using h)
def lkO : D → Option (List D)
  | .dict [(.bool true, .dict es)] => some (es.map (·.1))
  | _ => none
theorem kv_nob {K : PySem.W.Frag} {B : Hp} {kvs : List (Key × V)} {d : D} (h : DnKv K B kvs [(.bool true, d)]) : False := by
  generalize e : [((.bool true : D), d)] = es at h
  cases h with
  | nil => cases e
  | @cons k _ _ _ _ _ _ =>
    injection e with e1 _
    injection e1 with e2 _
    cases k <;> cases e2
theorem jw_lkk {K : PySem.W.Frag} {B : Hp} {a : Addr} {o : Obj} {kvs : List (Key × V)} {es : List (D × D)} (h : B a = some (.frz o (.dK kvs))) (hd : DnKv K B kvs es) : JW K B (Itk a o kvs) (es.map (·.1)) := fun B' H' s s' i => by
  have hH := s' _ _ (s _ _ h)
  have hl := kv_len hd
  refine ⟨fun d e => ?_, fun hi => ⟨hH, by rw [List.length_map] at hi; omega⟩⟩
  have hi : i < kvs.length := by
    have := (List.getElem?_eq_some_iff.mp e).1
    rw [List.length_map] at this
    omega
  refine ⟨⟨hH, hi⟩, fun x H2 hy => ?_⟩
  obtain ⟨rfl, k, v, e1, rfl⟩ := hy
  obtain ⟨d', e2⟩ := kv_at hd e1
  rw [List.getElem?_map, e2] at e
  cases e
  exact ⟨B', .refl s', dn_kD k⟩
theorem jw_lkt {K : PySem.W.Frag} {B : Hp} {a : Addr} {o : Obj} {kvs : List (List Key × V)} {es : List (D × D)} (h : B a = some (.frz o (.dT kvs))) (hd : DnKt K B kvs es) : JW K B (Itkt a o kvs) (es.map (·.1)) := fun B' H' s s' i => by
  have hH := s' _ _ (s _ _ h)
  have hl := kt_len hd
  refine ⟨fun d e => ?_, fun hi => ⟨hH, by rw [List.length_map] at hi; omega⟩⟩
  have hi : i < kvs.length := by
    have := (List.getElem?_eq_some_iff.mp e).1
    rw [List.length_map] at this
    omega
  refine ⟨⟨hH, hi⟩, fun x H2 hy => ?_⟩
  obtain ⟨rfl, k, v, q, e1, rfl, hq⟩ := hy
  obtain ⟨d', e2⟩ := kt_at hd e1
  rw [List.getElem?_map, e2] at e
  cases e
  obtain ⟨B2, x2, e3⟩ := Ext.show s' hq
  exact ⟨B2, x2, .tup e3 (dn_kDs k)⟩
section
variable {X : Cx} {tg iter : Expr} {G : Gd} {ow : List Nat} {f : Env → Rs D}
theorem i_lk (ha : PE X iter (cV G ow 0 f)) : PI X tg iter (cI G ow fun γ => (f γ).bind fun d => oR (lkO d)) := (pi_keys ha).impD fun σ H R ⟨B, γ, I, q⟩ => ⟨B, γ, I, q.bind.imp fun d q v B1 H1 x1 hv => by
  obtain ⟨z, ez, q⟩ := q.oR
  unfold lkO at ez
  split at ez
  · cases ez
    have hv' : Dn G.K B1 v (lkD _) := hv
    cases hv' with
    | lkk a b => exact ⟨_, _, rfl, .inl ⟨_, x1.s _ _ a, q _ B1 H1 x1 (jw_lkk a b)⟩⟩
    | lkt a b => exact ⟨_, _, rfl, .inr ⟨_, x1.s _ _ a, q _ B1 H1 x1 (jw_lkt a b)⟩⟩
    | dic a b => exact (kv_nob b).elim
    | dct a b => cases b
  · cases ez⟩
end
/-! asking it -/
def valL3 (dd kk : D) : Option (Option D) := match dd with
  | .dict [(.bool true, .dict (e :: es))] => val3 (.dict (e :: es)) kk
  | _ => none
def valL4 (dd kk : D) : Option (Option D) := match dd with
  | .dict [(.bool true, .dict (e :: es))] => val4 (.dict (e :: es)) kk
  | _ => none
theorem ask_L3 : Ask valL3 0 := ⟨by
  intro G ow B H σ γ I i dd kk u hx hk hg r hr hu
  obtain ⟨own, h1, h2, h3⟩ := I.v
  obtain ⟨v, e, sr⟩ := h3 i _ hg
  rw [hk] at sr
  unfold valL3 at hr
  split at hr
  · rename_i e0 es
    have hv : Dn G.K B v (lkD (e0 :: es)) := sr
    unfold val3 at hr
    replace hr : (es3 (e0 :: es)).bind _ = _ := hr
    cases hv with
    | @lkk p od kvs _ a b =>
      obtain ⟨l, e2, rel⟩ := kv_rel b
      rw [e2, es3_mk] at hr
      replace hr : (keyO kk).map _ = _ := hr
      cases hkk : keyO kk with
      | none => rw [hkk] at hr; cases hr
      | some k =>
        rw [hkk] at hr
        cases hr
        refine ⟨p, valV kvs k, e, ?_, pr_val k rel⟩
        exact .inl ⟨kvs, k, .inr ⟨_, I.s _ _ a⟩, keyO_kV (H := B) hkk hu, rfl⟩
    | lkt a b =>
      cases b with
      | cons b1 b2 => cases hr
    | dic a b => exact (kv_nob b).elim
    | dct a b => cases b
  · cases hr⟩
theorem ask_L4 : Ask valL4 0 := ⟨by
  intro G ow B H σ γ I i dd kk u hx hk hg r hr hu
  obtain ⟨own, h1, h2, h3⟩ := I.v
  obtain ⟨v, e, sr⟩ := h3 i _ hg
  rw [hk] at sr
  unfold valL4 at hr
  split at hr
  · rename_i e0 es
    have hv : Dn G.K B v (lkD (e0 :: es)) := sr
    unfold val4 at hr
    replace hr : (es4 (e0 :: es)).bind _ = _ := hr
    cases hv with
    | lkk a b =>
      cases b with
      | @cons k _ _ _ _ b1 b2 => cases k <;> cases hr
    | @lkt p od kvs _ a b =>
      obtain ⟨l, e2, rel⟩ := kt_rel b
      rw [e2, es4_mk] at hr
      replace hr : (keyT kk).map _ = _ := hr
      cases hkk : keyT kk with
      | none => rw [hkk] at hr; cases hr
      | some k =>
        rw [hkk] at hr
        cases hr
        refine ⟨p, valV kvs k, e, ?_, pr_val k rel⟩
        unfold keyT at hkk
        split at hkk
        · cases hu with
          | tup ha hda =>
            rw [keysO_kV hda hkk] at ha
            exact .inr ⟨kvs, k, _, .inr ⟨_, I.s _ _ a⟩, rfl, I.s _ _ ha, rfl⟩
        · cases hkk
    | dic a b => exact (kv_nob b).elim
    | dct a b => cases b
  · cases hr⟩
/-! moving it -/
def mvS (i j : Nat) : Env → Out := fun γ => match γ[j]? with
  | some (some d) => .nx ((γ.set j none).set i (some d))
  | _ => .no
section
variable {X : Cx} {G : Gd} {ow ow' owL : List Nat} {x y : Str} {px py spos : Pos}
theorem s_mv (i j : Nat) (hN : X.N.Nodup) (hx : X.N[i]? = some x := by rfl) (hy : X.N[j]? = some y := by rfl) (hij : i ≠ j := by decide) (hi : i < ow.length := by decide) (hw : (ow.set j 0).set i (ow.getD j 0) = ow' := by rfl) (hl : Loc X.env.scope x := by first | exact .inl rfl | exact .inr rfl) (hg : G.x = none := by rfl)
    (hv : Vis X.env.scope y := by first | exact Or.inl rfl | exact Or.inr (Or.inl rfl) | exact Or.inr (Or.inr rfl)) (hd : (y == ("__debug__" : Str)) = false := by decide) (hcd : (y == ("__classdict__" : Str)) = false := by decide)
    (hs : swapsWith (.Name y py) (some (.Name x px)) spos.line X.env = pure false := by rfl) (hf : X.fn x = true ∨ X.env.scope.names.lookup x = some .local := by first | exact .inl rfl | exact .inr rfl | assumption) :
    PS X (.Assign [.Name x px] (.Name y py) spos) (cS G ow ow' owL (mvS i j)) :=
  (ps_set hN hx hl (pe_var hy hv hd hcd) hs hf).impD fun J σ H ⟨B, γ, I, q⟩ => by
    unfold mvS at q
    split at q
    · rename_i d hgj
      obtain ⟨v, e, I'⟩ := I.mv (i := i) hg rfl hij hi hgj
      refine ⟨v, e, ?_⟩
      rw [hw] at I'
      exact q B _ _ (.refl _) I'
    · exact q.elim
end
end DL
set_option Elab.async false
set_option linter.all false
set_option maxRecDepth 100000
set_option maxHeartbeats 4000000
/-! The data layer: {t: v} with one tuple as key; ts[::-1] of a tuple. -/
namespace DL
open PySem PySem.Spec PyProof.Rows L2
section
variable {X : Cx} {k v : Expr} {tk tv : TE} {pos : Pos}
def tD1 (tk tv : TE) : TE := fun σ H Q => ∀ p, H p = none → tk σ (upd H p (.dT [])) fun x H1 => tv σ H1 fun y H2 => H2 p = some (.dT []) ∧ ∃ ks b, x = .ref b ∧ H2 b = some (.tup (List.map kV ks)) ∧ Q (.ref p) (upd H2 p (.dT [(ks, y)]))
theorem pe_disp1T (hu : X.A.units < cLine) (hk : L2.PE X k tk) (hv : L2.PE X v tv) : L2.PE X (.Dict [some k] [v] pos) (tD1 tk tv) := by
  refine ⟨fun pins s σ H Q I q => ?_⟩
  have free := I.hok.fresh (Nat.le_refl s.heap.objs.size)
  have Inew := I.laid (a := s.heap.objs.size) (o := .dT []) (h' := s.heap.push { cls := .type "dict", data := .dict #[] }) (t' := s.toks) (fun _ _ z => Heap.get?_push_of_some _ z) (Nat.le_refl _) (dt_empty s.heap I.big)
  rw [arm_eval_Dict, zip_pairTrees [some k] [v] X.env pos rfl rfl, dictDisplay_pairs (pairTrees [some k] [v] X.env pos) (by simp [pairTrees]) (by simp [pairTrees])]
  refine wpAny_bind (wpAny_standAt (wpAny_bind ?_))
  unfold subDict
  refine wpAny_bind (wpAny_alloc (wpAny_bind (wpAny_holding ?_)))
  rw [if_pos (show (pairTrees [some k] [v] X.env pos).length ≤ 15 by simp [pairTrees])]
  refine wpAny_bind (pairTrees_cons_walk ?_)
  refine thn (hk.run pins _ σ _ _ Inew (q _ free)) fun uk s1 ⟨x, H1, I1, rx, q1⟩ => ?_
  refine thn (hv.run pins s1 σ H1 _ I1 q1) fun uv s2 ⟨y, H2, I2, ry, q2⟩ => ?_
  obtain ⟨e0, ks, b, rfl, eb, q3⟩ := q2
  refine pairTrees_nil_walk ?_
  obtain rfl : uk = Value.ref b := rx
  refine wpAny_holding (wpAny_bind ?_)
  rw [List.forIn_cons]
  refine wpAny_bind (wpAny_bind (tset hu I2 e0 (show 0 < sizeLine by decide) eb ry fun t It => wpAny_pure ?_))
  exact wpAny_pure (wpAny_pure (wpAny_pure (wpAny_pure ⟨.ref s.heap.objs.size, _, It, rfl, q3⟩)))
end
def dsp1 (kk d : D) : Option D := (keyT kk).map fun k => mk4 [(k, d)]
@[simp] abbrev sDisp1 (i : Nat) (fk fv : Env → Rs D) : Env → Out := fun γ => liftS ((fk γ).bind fun kk => (fv γ).bind fun d => oR (dsp1 kk d)) γ fun dd => .nx (γ.set i (some dd))
section
variable {X : Cx} {kx vx : Expr} {x : Str} {p' p1 pos : Pos} {G : Gd} {ow ow' owL : List Nat} {fk fv : Env → Rs D} {n : Nat}
theorem s_disp1T (i : Nat) (hr : Room n X.A) (hN : X.N.Nodup) (hk : L2.PE X kx (cV G ow 0 fk)) (hv : L2.PE X vx (cV G ow 0 fv)) (hw : ow.set i 4 = ow' := by rfl) (hlt : i < ow.length := by decide) (hi : X.N[i]? = some x := by rfl) (hx : Loc X.env.scope x := by first | exact .inl rfl | exact .inr rfl) (hg : G.x = none := by rfl)
    (hs : swapsWith (.Dict [some kx] [vx] pos) (some (.Name x p')) p1.line X.env = pure false := by rfl) (hf : X.fn x = true ∨ X.env.scope.names.lookup x = some .local := by first | exact .inl rfl | exact .inr rfl | assumption) :
    PS X (.Assign [.Name x p'] (.Dict [some kx] [vx] pos) p1) (cS G ow ow' owL (sDisp1 i fk fv)) :=
  (ps_set hN hi hx (pe_disp1T (by have := hr.un; omega) hk hv) hs hf).impD fun J σ H ⟨B, γ, I, q⟩ => fun p hp => by
    have x0 : Ext B H B (upd H p (.dT [])) := .hid I.s hp
    refine ⟨B, γ, I.mono x0, (OutP.lift I q).bind.mono x0 fun kk q u B1 H1 x1 hu => ⟨B1, γ, I.mono (x0.trans x1), q.bind.mono (x0.trans x1) fun d q w B2 H2 x2 hw2 => ?_⟩⟩
    obtain ⟨z, ez, q9⟩ := q.oR
    unfold dsp1 at ez
    cases hkk : keyT kk with
    | none => rw [hkk] at ez; cases ez
    | some ks =>
      rw [hkk] at ez
      cases ez
      have bp : B2 p = none := (x1.trans x2).n p (same_none I.s hp) ⟨_, upd_same, fun _ z => nomatch z⟩
      have hp2 : H2 p = some (.dT []) := (x1.trans x2).h _ _ upd_same
      have hu2 := Dn.mono x2.b hu
      unfold keyT at hkk
      split at hkk
      · cases hu2 with
        | tup ha hda =>
          rw [keysO_kV hda hkk] at ha
          refine ⟨hp2, ks, _, rfl, x2.s _ _ ha, ?_⟩
          have x3 : Ext B H B2 H2 := x0.trans (x1.trans x2)
          refine q9 B2 _ _ x3.b ?_
          rw [← hw]
          exact I.setO i hg hlt (x3.wrh hp bp) hp bp ⟨_, upd_same, fun _ z => nomatch z⟩ ⟨p, _, _, rfl, rfl, rfl, upd_same, .cons hw2 .nil⟩
      · cases hkk
end
/-! ts[::-1] -/
section
variable {prog : Program} {w : World} {A : Around} {E : Value → Shared → Prop} {s : Shared}
theorem tupPart {v : Value} {o : Option Int} {R : Option Int → Shared → Prop} (p : IsPart v o) (h : R o s) : wpAny (model prog w) A (Builtin.Slice.slicePartIndex v) R E s := by
  cases p with
  | none => exact PyProof.Rows.slicePart_none h
  | int i t => exact PyProof.Rows.slicePart_int h
theorem revPlaces (n : Nat) : Builtin.Slice.slicePlaces ((n : Int) - 1) (-1) (-1) = n := by
  unfold Builtin.Slice.slicePlaces
  have e : (- -1 : Int) = 1 := by decide
  have g : ¬ ((-1 : Int) > 0) := by decide
  rw [if_neg g, e, Int.ediv_one]
  split <;> omega
theorem fmC {α β : Type} {f g : α → Option β} : ∀ {l : List α}, (∀ a ∈ l, f a = g a) → l.filterMap f = l.filterMap g
  | [], _ => rfl
  | a :: l, h => by
    rw [List.filterMap_cons, List.filterMap_cons, h a List.mem_cons_self, fmC fun b hb => h b (List.mem_cons_of_mem _ hb)]
theorem revPick (xs : Array Value) : ((List.range xs.size).filterMap fun (j : Nat) => xs[((xs.size : Int) - 1 + (j : Int) * (-1)).toNat]?).toArray = xs.toList.reverse.toArray := by
  rw [← PySem.W.krv_pick xs]
  unfold slicePick
  rw [PySem.W.krv_bounds]
  show _ = ((sliceRange ((xs.size : Int) - 1) (-1) (-1)).filterMap (xs[·]?)).toArray
  rw [PySem.W.krv_sliceRange, List.filterMap_map]
  refine congrArg List.toArray (fmC fun j hj => ?_)
  have := List.mem_range.mp hj
  have e : ((xs.size : Int) - 1 + (j : Int) * (-1)).toNat = xs.size - 1 - j := by omega
  show xs[((xs.size : Int) - 1 + (j : Int) * (-1)).toNat]? = xs[xs.size - 1 - j]?
  rw [e]
theorem tupRev {t sl : Addr} {its : Array Value} {va vb vc : Value} {R : Value → Shared → Prop} (ht : IsTup s.heap t its) (hs : s.heap.IsSliceOf sl va vb vc) (pa : IsPart va none) (pb : IsPart vb none) (pc : IsPart vc (some (-1))) (hz : its.size ≤ sizeLine)
    (h : R (.ref s.heap.objs.size) { s with heap := s.heap.push { cls := .type "tuple", data := .seq its.toList.reverse.toArray } }) : wpAny (model prog w) A (getItem (.ref t) (.ref sl)) R E s := by
  have room : sizeOk (.seq its.toList.reverse.toArray) := by
    show its.toList.reverse.toArray.size ≤ sizeLine
    rw [List.size_toArray, List.length_reverse, Array.length_toList]
    exact hz
  obtain ⟨ob, g1, g2, g3⟩ := id hs
  have isS : s.TypeIs (.ref sl) "slice" := ⟨ob, g1, g2⟩
  unfold getItem
  refine wpAny_holding ?_
  refine wpAny_bind (wpAny_sequenceKey ht.typeIs (by decide) ?_)
  refine wpAny_bind (wpAny_callSpecial?_slot (name := Str.ofString "__getitem__") ht.typeIs PyProof.Rows.slot_tuple_getitem (wpAny_call_entry PyProof.Rows.slot_tuple_getitem ht.typeIs entry_tuple_getitem ?_ (args_tuple_getitem _ _)))
  show wpAny _ _ (Builtin.Tuple.tupleItemsOf (.ref t) >>= _) _ _ s
  refine wpAny_bind (tupleItemsOf_ ht (wpAny_bind (wpAny_typeOf isS ?_)))
  rw [if_pos (by decide)]
  unfold Builtin.Slice.sliceApplied Builtin.Slice.sliceFields
  refine wpAny_bind (wpAny_bind (wpAny_bind (wpAny_field g1 g3 (x := va) rfl (wpAny_bind (wpAny_field g1 g3 (x := vb) rfl (wpAny_bind (wpAny_field g1 g3 (x := vc) rfl (wpAny_pure ?_))))))))
  refine wpAny_bind (tupPart pc ?_)
  show wpAny _ _ (if ((-1 : Int) == 0) = true then _ else _) _ _ s
  rw [if_neg (by decide)]
  refine wpAny_bind (tupPart pa (wpAny_bind (tupPart pb (wpAny_bind (wpAny_pure ?_)))))
  show wpAny _ _ (pure ((its.size : Int) - 1, (-1 : Int), Builtin.Slice.slicePlaces ((its.size : Int) - 1) (-1) (-1))) _ _ s
  rw [revPlaces]
  refine wpAny_pure ?_
  have no : ¬ ((((its.size : Int) - 1 == 0) && ((-1 : Int) == 1) && (its.size == its.size)) = true) := by simp
  show wpAny _ _ (if (((its.size : Int) - 1 == 0) && ((-1 : Int) == 1) && (its.size == its.size)) = true then _ else _) _ _ s
  rw [if_neg no, revPick]
  exact wpAny_bind (m := Builtin.Tuple.tupleExact _) (wpAny_newObj_type (wpAny_pure ⟨_, rfl, wpAny_pure h⟩) room)
end
section
variable {X : Cx} {e : Expr} {te : TE}
def tRevT (K : PySem.W.Frag) (te : TE) : TE := fun σ H Q => te σ H fun x H1 => ∃ a xs, x = .ref a ∧ SqT K H1 a xs ∧ ∀ r, H1 r = none → Q (.ref r) (upd H1 r (.tup xs.reverse))
theorem pe_revT {k : Nat} {p1 p2 p3 pos : Pos} (he : L2.PE X e te) : L2.PE X (.Subscript e (.Slice none none (some (.UnaryOp .USub (.Constant (.int 1) k p1) p2)) p3) pos) (tRevT X.K te) := by
  refine ⟨fun pins s σ H Q I h0 => ?_⟩
  refine Subscript_ (thn (he.run pins s σ H _ I h0) fun v s1 ⟨x, H1, I1, r1, a, xs, ex, hx, q⟩ => ?_)
  subst ex
  cases r1
  have part : PO X (some (.UnaryOp .USub (.Constant (.int 1) k p1) p2)) (tPart (tUn (rU fun i => .int (-i)) (tC (.int 1)))) := po_some (pe_un un_neg pe_int)
  refine wpAny_Slice (thn (po_none.run pins s1 σ H1 (fun o H2 => o = none ∧ H2 = H1) I1 ⟨rfl, rfl⟩) fun va s2 ⟨oa, Ha, I2, pa, ea, fa⟩ => ?_)
  subst ea fa
  refine thn (po_none.run pins s2 σ Ha (fun o H2 => o = none ∧ H2 = Ha) I2 ⟨rfl, rfl⟩) fun vb s3 ⟨ob, Hb, I3, pb, eb, fb⟩ => ?_
  subst eb fb
  refine thn (part.run pins s3 σ Hb (fun o H2 => o = some (-1) ∧ H2 = Hb) I3 ⟨1, rfl, -1, rfl, rfl, rfl⟩) fun vc s4 ⟨oc, Hc, I4, pc, ec, fc⟩ => ?_
  subst ec fc
  have I5 : L2.Inv X pins σ Hc { s4 with heap := s4.heap.push { cls := .type "slice", data := .fields #[va, vb, vc] } } := I4.kept (t' := s4.toks) fun b o z => Heap.get?_push_of_some _ z
  obtain ⟨its, r, ht, hz⟩ := I5.tuple hx
  have len := r.length
  show wpAny (model X.prog X.w) X.A (subscriptTail e (.Slice none none (some (.UnaryOp .USub (.Constant (.int 1) k p1) p2)) p3) (.ref a) (.ref s4.heap.objs.size)) (EP X pins σ Q) X.xe { s4 with heap := s4.heap.push { cls := .type "slice", data := .fields #[va, vb, vc] } }
  refine tail_any (ops := [.ref a, .ref s4.heap.objs.size]) ht.typeIs (PyProof.Rows.slot_tuple_getitem.lookup) ?_ (by with_unfolding_all rfl)
  refine tupRev ht (Heap.IsSliceOf.new _ va vb vc) pa pb pc (by rw [List.size_toArray]; omega) ?_
  refine ⟨.ref _, _, I5.laid (t' := s4.toks) (o := .tup xs.reverse) (fun b o z => Heap.get?_push_of_some _ z) (Nat.le_refl _) ?_, rfl, q _ (I5.hok.fresh (Nat.le_refl _))⟩
  exact ⟨by rw [List.length_reverse]; exact hz, _, r.reverse, IsTup.new _ _⟩
end
def revTD : D → Option D
  | .tuple ds => some (.tuple ds.reverse)
  | _ => none
section
variable {X : Cx} {a : Expr} {pos : Pos} {G : Gd} {ow : List Nat} {f : Env → Rs D}
theorem d_revT {k : Nat} {p1 p2 p3 : Pos} (ha : L2.PE X a (cV G ow 0 f)) (hK : X.K = G.K := by rfl) :
    L2.PE X (.Subscript a (.Slice none none (some (.UnaryOp .USub (.Constant (.int 1) k p1) p2)) p3) pos) (cV G ow 0 (b1 f revTD)) :=
  (pe_revT ha).impD fun σ H Q ⟨B, γ, I, q⟩ => ⟨B, γ, I, q.bind.imp fun d q v B1 H1 x1 hv => by
    obtain ⟨z, ez, q9⟩ := q.oR
    unfold revTD at ez
    split at ez
    · cases ez
      have hv' : Dn G.K B1 v (.tuple _) := hv
      cases hv' with
      | tup h1 h2 =>
        rw [hK]
        refine ⟨_, _, rfl, .inl (.inl (x1.s _ _ h1)), fun r hr => q9 _ (upd B1 r _) _ (x1.trans (.new x1.s hr)) ?_⟩
        exact Dn.tup upd_same (DnAll.mono (same_new (same_none x1.s hr)) h2.reverse)
    · cases ez⟩
theorem d_tuprg1 {p p1 p2 : Pos} (hm : X.mg "tuple" = none) (hmr : X.mg "range" = none) (ha : L2.PE X a (cV G ow 1 f)) (hg : Gl X "tuple" := by rfl) (hgr : Gl X "range" := by rfl) (hc : X.calm = true := by rfl) (na : starEach [a] X.env = (false, eval a X.env) :: starEach [] X.env := by rfl)
    (nb : starEach [.Call (.Name "range" p1) [a] [] p2] X.env = (false, eval (.Call (.Name "range" p1) [a] [] p2) X.env) :: starEach [] X.env := by rfl) :
    L2.PE X (.Call (.Name "tuple" p) [.Call (.Name "range" p1) [a] [] p2] [] pos) (cV G ow 0 fun γ => (f γ).bind fun d => oR ((rgL1 d).map PyData.tuple)) :=
  (pe_tupRg hc hg hm (prg_1 hgr hmr ha (na := na)) (na := nb)).impD fun σ H Q ⟨B, γ, I, q⟩ => ⟨B, γ, I, q.bind.imp fun d q v B1 H1 x1 hv => by
    obtain ⟨z, ez, q9⟩ := q.oR
    unfold rgL1 at ez
    split at ez
    · rename_i j
      split at ez
      · rename_i hj
        cases ez
        exact ⟨j, hv.int, RgOk.of_le (by decide) (Int.le_trans hj.2 (by decide)) (by decide) hj.1, fun r hr => q9 _ (upd B1 r _) _ (x1.trans (.new x1.s hr)) (Dn.tup upd_same (rg_all 0 j))⟩
      · cases ez
    · cases ez⟩
end
end DL
set_option Elab.async false
set_option linter.all false
set_option maxRecDepth 100000
set_option maxHeartbeats 4000000
/-! The data layer: x in TUPLE, a written tuple of texts. -/
namespace DL
open PySem PySem.Spec PyProof.Rows L2
/-- the name of a written tuple of texts -/
def WTup (K : PySem.W.Frag) (mg : Str → Option Value) (x : Str) (ts : List Str) : Prop :=
  ∃ (a : Addr) (o : Obj) (its : Array Value) (n : Nat), mg x = some (.ref a) ∧ K.lookup a = some o ∧ o.cls = .type "tuple" ∧ o.data = .seq its n ∧ its.size ≤ sizeLine ∧ Vals (ts.map V.str) its.toList
theorem WTup.seq {K : PySem.W.Frag} {mg : Str → Option Value} {x : Str} {ts : List Str} (T : WTup K mg x ts) : ∃ a, mg x = some (.ref a) ∧ ∀ H, SqT K H a (ts.map V.str) := by
  obtain ⟨a, o, its, n, h1, h2⟩ := T
  exact ⟨a, h1, fun H => .inr ⟨o, its, n, h2⟩⟩
def inT (ts : List Str) (neg : Bool) : D → Option D
  | .str x => some (.bool (neg != decide (x ∈ ts)))
  | _ => none
theorem flat_strs (ts : List Str) : (ts.map V.str).all flatV = true := by
  rw [List.all_map, List.all_eq_true]
  exact fun _ _ => rfl
theorem inV_strs (x : Str) : ∀ ts : List Str, inV (.str x) (ts.map V.str) = decide (x ∈ ts)
  | [] => rfl
  | t :: ts => by
    have ih := inV_strs x ts
    unfold inV at ih ⊢
    rw [List.map_cons, List.any_cons, ih]
    show ((t == x) || decide (x ∈ ts)) = decide (x ∈ t :: ts)
    by_cases e : x = t
    · subst e
      simp
    · have e' : (t == x) = false := beq_eq_false_iff_ne.mpr fun z => e z.symm
      rw [e', Bool.false_or]
      exact decide_eq_decide.mpr (by simp [e])
section
variable {X : Cx} {a : Expr} {pos p : Pos} {G : Gd} {ow : List Nat} {f : Env → Rs D} {x : Str} {ts : List Str}
theorem d_inT (T : WTup X.K X.mg x ts) (ha : L2.PE X a (cV G ow 1 f)) (hg : Gl X x := by rfl) (hd : (x == ("__debug__" : Str)) = false := by decide) (hm : behindInMarks .In (.Name x p) = false := by rfl) :
    L2.PE X (.Compare a [.In] [.Name x p] pos) (cV G ow 0 (b1 f (inT ts false))) := by
  obtain ⟨d, h1, h2⟩ := T.seq
  refine (pe_cmpR (op_in_seq) ha (pe_glob (v := .ref d) hg h1 rfl hd) hm).impD fun σ H Q ⟨B, γ, I, q⟩ => ⟨B, γ, I, q.bind.imp fun e q v B1 H1 x1 hv => ?_⟩
  obtain ⟨z, ez, q9⟩ := q.oR
  unfold inT at ez
  split at ez
  · rename_i y
    cases ez
    refine ⟨d, _, rfl, .inr (h2 H1), by rw [hv.str]; rfl, flat_strs ts, q9 _ B1 H1 x1 ?_⟩
    rw [hv.str, inV_strs]
    simp
    exact Dn.bl _
  · cases ez
theorem d_notinT (T : WTup X.K X.mg x ts) (ha : L2.PE X a (cV G ow 1 f)) (hg : Gl X x := by rfl) (hd : (x == ("__debug__" : Str)) = false := by decide) (hm : behindInMarks .NotIn (.Name x p) = false := by rfl) :
    L2.PE X (.Compare a [.NotIn] [.Name x p] pos) (cV G ow 0 (b1 f (inT ts true))) := by
  obtain ⟨d, h1, h2⟩ := T.seq
  refine (pe_cmpR op_notIn_seq ha (pe_glob (v := .ref d) hg h1 rfl hd) hm).impD fun σ H Q ⟨B, γ, I, q⟩ => ⟨B, γ, I, q.bind.imp fun e q v B1 H1 x1 hv => ?_⟩
  obtain ⟨z, ez, q9⟩ := q.oR
  unfold inT at ez
  split at ez
  · rename_i y
    cases ez
    refine ⟨d, _, rfl, .inr (h2 H1), by rw [hv.str]; rfl, flat_strs ts, q9 _ B1 H1 x1 ?_⟩
    rw [hv.str, inV_strs]
    simp
    exact Dn.bl _
  · cases ez
theorem t_inT (T : WTup X.K X.mg x ts) (ha : L2.PE X a (cV G ow 1 f)) (hg : Gl X x := by rfl) (hd : (x == ("__debug__" : Str)) = false := by decide) (hm : behindInMarks .In (.Name x p) = false := by rfl) :
    PT X (.Compare a [.In] [.Name x p] pos) (cT G ow (b1 (b1 f (inT ts false)) boolO)) := by
  obtain ⟨d, h1, h2⟩ := T.seq
  refine (pt_cmpR op_in_seq ha (pe_glob (v := .ref d) hg h1 rfl hd) hm).impD fun σ H Q ⟨B, γ, I, q⟩ => ⟨B, γ, I, q.bind.bind.imp fun e q v B1 H1 x1 hv => ?_⟩
  obtain ⟨z, ez, q⟩ := q.oR
  obtain ⟨k, ek, q9⟩ := q.oR
  unfold inT at ez
  split at ez
  · rename_i y
    cases ez
    cases ek
    refine ⟨d, _, rfl, .inr (h2 H1), by rw [hv.str]; rfl, flat_strs ts, _, rfl, ?_⟩
    rw [hv.str, inV_strs]
    simpa using q9 B1 H1 x1
  · cases ez
theorem t_notinT (T : WTup X.K X.mg x ts) (ha : L2.PE X a (cV G ow 1 f)) (hg : Gl X x := by rfl) (hd : (x == ("__debug__" : Str)) = false := by decide) (hm : behindInMarks .NotIn (.Name x p) = false := by rfl) :
    PT X (.Compare a [.NotIn] [.Name x p] pos) (cT G ow (b1 (b1 f (inT ts true)) boolO)) := by
  obtain ⟨d, h1, h2⟩ := T.seq
  refine (pt_cmpR op_notIn_seq ha (pe_glob (v := .ref d) hg h1 rfl hd) hm).impD fun σ H Q ⟨B, γ, I, q⟩ => ⟨B, γ, I, q.bind.bind.imp fun e q v B1 H1 x1 hv => ?_⟩
  obtain ⟨z, ez, q⟩ := q.oR
  obtain ⟨k, ek, q9⟩ := q.oR
  unfold inT at ez
  split at ez
  · rename_i y
    cases ez
    cases ek
    refine ⟨d, _, rfl, .inr (h2 H1), by rw [hv.str]; rfl, flat_strs ts, _, rfl, ?_⟩
    rw [hv.str, inV_strs]
    simpa using q9 B1 H1 x1
  · cases ez
end
end DL
set_option Elab.async false
set_option linter.all false
set_option maxRecDepth 100000
set_option maxHeartbeats 4000000
/-! The data layer: a range kept in a name, and walked. -/
namespace DL
open PySem PySem.Spec PyProof.Rows L2
abbrev rngD (lo hi : Int) : D := .dict [(.bool false, .tuple [.int lo, .int hi])]
/-- range(a, b) as a value -/
def rgV2 : List D → Option D
  | [.int i, .int j] => if (-RLIM ≤ i ∧ i ≤ RLIM) ∧ (-RLIM ≤ j ∧ j ≤ RLIM) then some (rngD i j) else none
  | _ => none
def rngO : D → Option (List D)
  | .dict [(.bool false, .tuple [.int i, .int j])] => if (-RLIM ≤ i ∧ i ≤ RLIM) ∧ (-RLIM ≤ j ∧ j ≤ RLIM) then some (rgD i j) else none
  | _ => none
section
variable {X : Cx} {tg e : Expr} {te : TE}
def iRngV (te : TE) : TI := fun σ H R => te σ H fun x H1 => ∃ a lo hi, x = .ref a ∧ H1 a = some (.rng lo hi) ∧ (-(2 ^ 62) ≤ lo ∧ lo < 2 ^ 62 ∧ -(2 ^ 62) ≤ hi ∧ hi < 2 ^ 62) ∧ R (Itr lo (hi - lo).toNat) H1
theorem pi_rngV (he : L2.PE X e te) : PI X tg e (iRngV te) := by
  refine ⟨fun pins s σ H R I h => ?_⟩
  refine thn (he.run pins s σ H _ I h) fun v s1 ⟨x, H1, I1, r1, a, lo, hi, ex, ha, ⟨b1, b2, b3, b4⟩, q⟩ => ?_
  subst ex
  cases r1
  obtain ⟨t, u, w, hg⟩ := (show ObjOk X.prog X.w H1 s1.heap a (.rng lo hi) from I1.hok a _ ha)
  refine wpAny_pyIter_range (show IsRange s1.heap a lo hi 1 t u w from hg) (small_one b1 b2 b3 b4) ?_
  refine ⟨s1.heap.objs.size, [s1.heap.objs.size], _, _, H1, rfl, I1.kept (t' := s1.toks) fun b o z => Heap.get?_push_of_some _ z, turn_range _ lo (hi - lo).toNat, ?_, fun b hb => ?_, q⟩
  · have e1 : lo + ((0 : Nat) : Int) * 1 = lo := by simp
    have e2 : (((hi - lo).toNat : Nat) : Int) - ((0 : Nat) : Int) = Builtin.Range.rangeSize lo hi 1 := by
      rw [rangeSize_one]
      split <;> omega
    rw [e1, e2]
    exact Heap.get?_push_size _ rfl
  · rw [List.mem_singleton] at hb
    subst hb
    exact I1.fpOk (Nat.le_refl _) (I1.hok.fresh (Nat.le_refl _))
end
section
variable {X : Cx} {tg e : Expr} {p pos : Pos} {G : Gd} {ow : List Nat} {f : Env → Rs D} {a b : Expr} {fs : Env → Rs (List D)}
theorem kv_nof {K : PySem.W.Frag} {B : Hp} {kvs : List (Key × V)} {d : D} (h : DnKv K B kvs [(.bool false, d)]) : False := by
  generalize e : [((.bool false : D), d)] = es at h
  cases h with
  | nil => cases e
  | @cons k _ _ _ _ _ _ =>
    injection e with e1 _
    injection e1 with e2 _
    cases k <;> cases e2
theorem i_rngV (he : L2.PE X e (cV G ow 0 f)) : PI X tg e (cI G ow fun γ => (f γ).bind fun d => oR (rngO d)) := (pi_rngV he).impD fun σ H R ⟨B, γ, I, q⟩ => ⟨B, γ, I, q.bind.imp fun d q v B1 H1 x1 hv => by
  obtain ⟨z, ez, q⟩ := q.oR
  unfold rngO at ez
  split at ez
  · rename_i i j
    split at ez
    · rename_i hc
      cases ez
      have hv' : Dn G.K B1 v (rngD i j) := hv
      generalize hd : rngD i j = dd at hv'
      cases hv' with
      | rng h =>
        cases hd
        exact ⟨_, _, _, rfl, x1.s _ _ h, ⟨Int.le_trans (by decide) hc.1.1, Int.lt_of_le_of_lt hc.1.2 (by decide), Int.le_trans (by decide) hc.2.1, Int.lt_of_le_of_lt hc.2.2 (by decide)⟩, q _ B1 H1 x1 jw_rng⟩
      | dic a b =>
        cases hd
        exact (kv_nof b).elim
      | dct a b =>
        cases hd
        cases b
      | _ => cases hd
    · cases ez
  · cases ez⟩
theorem d_rngV (hm : X.mg "range" = none) (ha : PA X [a, b] (cA G ow 1 fs)) (hg : Gl X "range" := by rfl) (he : starEach [a, b] X.env = (false, eval a X.env) :: starEach [b] X.env := by rfl) (hpl : (backTo pos (starEach [b] X.env)).any (·.1) = false := by rfl) :
    L2.PE X (.Call (.Name "range" p) [a, b] [] pos) (cV G ow 0 fun γ => (fs γ).bind fun ds => oR (rgV2 ds)) :=
  (pe_callTy cr_range2 hg hm (by decide +kernel) ha (by decide) (by decide) he hpl).impD fun σ H Q ⟨B, γ, I, q⟩ => ⟨B, γ, I, q.bind.imp fun ds q vs B1 H1 x1 hvs => by
    obtain ⟨z, ez, q9⟩ := q.oR
    unfold rgV2 at ez
    split at ez
    · rename_i i j
      split at ez
      · cases ez
        cases hvs with
        | cons h t =>
          cases t with
          | cons h' t' =>
            cases t'
            exact ⟨i, j, by rw [DnF.int h, DnF.int h'], fun r hr => q9 _ (upd B1 r _) _ (x1.trans (.new x1.s hr)) (Dn.rng upd_same)⟩
      · cases ez
    · cases ez⟩
end
end DL
set_option Elab.async false
set_option linter.all false
set_option maxRecDepth 100000
set_option maxHeartbeats 4000000
/-! The data layer: texts. -/
namespace DL
open PySem PySem.Spec PyProof.Rows L2

section
variable {X : Cx} {a b e : Expr} {es : List Expr} {x : Str} {p pos p1 p2 : Pos} {G : Gd} {ow : List Nat} {f g : Env → Rs D} {fs : Env → Rs (List D)} {k : Nat}
/-! names of texts -/
theorem d_gstr {i : Str} (h : ∃ u, X.mg x = some u ∧ RelV (.str i) u) (hg : Gl X x := by rfl) (hd : (x == ("__debug__" : Str)) = false := by decide) : PE X (.Name x pos) (cV G ow 0 (eC (.str i))) := d_c (C8.pe_gc hg h hd) fun _ => .str _
/-! texts in their order -/
def leSD : D → D → Option D
  | .str i, .str j => some (.bool (!decide (j.cps.toList < i.cps.toList)))
  | _, _ => none
theorem hr_leS {K : PySem.W.Frag} : HR K (fun x y H Q => ∃ i j, x = .str i ∧ y = .str j ∧ Q (.bl (!decide (j.cps.toList < i.cps.toList))) H) leSD := by
  refine ⟨?_⟩; intro B H x y d e z Q s hx hy hz q
  unfold leSD at hz
  split at hz
  · cases hz
    exact ⟨_, _, hx.str, hy.str, q _ B H (.refl s) (.bl _)⟩
  · cases hz
/-! one sign in a text -/
def inSD (neg : Bool) : D → D → Option D
  | .str a, .str z => match a.cps.toList with
    | [c] => some (.bool (neg != decide (c ∈ z.cps.toList)))
    | _ => none
  | _, _ => none
theorem one_sign {a : Str} {c : Nat} (h : a.cps.toList = [c]) : a = ⟨#[c]⟩ := by
  obtain ⟨u⟩ := a
  have : u = #[c] := Array.toList_inj.mp h
  rw [this]
theorem hr_inS {K : PySem.W.Frag} : HR K (fun x y H Q => ∃ (c : Nat) (z : Str), x = .str ⟨#[c]⟩ ∧ y = .str z ∧ Q (.bl (decide (c ∈ z.cps.toList))) H) (inSD false) := by
  refine ⟨?_⟩; intro B H x y d e z Q s hx hy hz q
  unfold inSD at hz
  split at hz
  · rename_i a z
    split at hz
    · rename_i c hc
      cases hz
      have := one_sign hc
      subst this
      exact ⟨c, z, hx.str, hy.str, q _ B H (.refl s) (by rw [Bool.false_bne]; exact .bl _)⟩
    · cases hz
  · cases hz
theorem hr_ninS {K : PySem.W.Frag} : HR K (fun x y H Q => ∃ (c : Nat) (z : Str), x = .str ⟨#[c]⟩ ∧ y = .str z ∧ Q (.bl (!decide (c ∈ z.cps.toList))) H) (inSD true) := by
  refine ⟨?_⟩; intro B H x y d e z Q s hx hy hz q
  unfold inSD at hz
  split at hz
  · rename_i a z
    split at hz
    · rename_i c hc
      cases hz
      have := one_sign hc
      subst this
      exact ⟨c, z, hx.str, hy.str, q _ B H (.refl s) (by rw [Bool.true_bne]; exact .bl _)⟩
    · cases hz
  · cases hz
theorem d_inS (ha : PE X a (cV G ow 1 f)) (hb : PE X b (cV G ow 1 g)) (hm : behindInMarks .In b = false := by rfl) : PE X (.Compare a [.In] [b] pos) (cV G ow 0 (b2 f g (inSD false))) := d_cmp hr_inS op_in_sign hm ha hb
theorem t_inS (ha : PE X a (cV G ow 1 f)) (hb : PE X b (cV G ow 1 g)) (hm : behindInMarks .In b = false := by rfl) : PT X (.Compare a [.In] [b] pos) (cT G ow (b1 (b2 f g (inSD false)) boolO)) := t_cmp hr_inS op_in_sign hm ha hb
theorem t_notinS (ha : PE X a (cV G ow 1 f)) (hb : PE X b (cV G ow 1 g)) (hm : behindInMarks .NotIn b = false := by rfl) : PT X (.Compare a [.NotIn] [b] pos) (cT G ow (b1 (b2 f g (inSD true)) boolO)) := t_cmp hr_ninS op_notIn_sign hm ha hb
theorem d_notinS (ha : PE X a (cV G ow 1 f)) (hb : PE X b (cV G ow 1 g)) (hm : behindInMarks .NotIn b = false := by rfl) : PE X (.Compare a [.NotIn] [b] pos) (cV G ow 0 (b2 f g (inSD true))) := d_cmp hr_ninS op_notIn_sign hm ha hb
def strO : D → Option Str
  | .str x => some x
  | _ => none
theorem strO_eq {d : D} {x : Str} (h : strO d = some x) : d = .str x := by
  unfold strO at h
  split at h
  · cases h; rfl
  · cases h
abbrev eM1 {α : Type} (f g : Env → Rs D) (F : D → D → Option α) : Env → Rs α := fun γ => (f γ).bind fun d => (oR (strO d)).bind fun _ => (g γ).bind fun e => oR (F d e)
/-! sep.join(texts) -/
def strsO : List D → Option (List Str)
  | [] => some []
  | .str x :: r => (strsO r).map (x :: ·)
  | _ => none
theorem strsO_map : ∀ {ds : List D} {ys : List Str}, strsO ds = some ys → ds = ys.map PyData.str
  | [], _, h => by cases h; rfl
  | d :: ds, ys, h => by
    cases d with
    | str x =>
      have h : (strsO ds).map (x :: ·) = some ys := h
      rw [Option.map_eq_some_iff] at h
      obtain ⟨zs, h1, rfl⟩ := h
      rw [strsO_map h1]
      rfl
    | _ => cases h
def joinD : D → D → Option D
  | .str s, .list ds => (strsO ds).bind fun ys => if (ys.map (·.length)).sum + ys.length * s.length ≤ LIM then some (.str (Str.join s ys)) else none
  | .str s, .tuple ds => (strsO ds).bind fun ys => if (ys.map (·.length)).sum + ys.length * s.length ≤ LIM then some (.str (Str.join s ys)) else none
  | _, _ => none
theorem d_join (ha : PE X a (cV G ow 1 f)) (hb : PE X e (cV G ow 1 g)) (hK : X.K = G.K := by rfl) (hs : starEach [e] X.env = [(false, eval e X.env)] := by rfl) (hbase : attributeBase a "join" X.env (eval a X.env) = eval a X.env := by rfl) (hline : (p1.endLine == pos.line) = true := by rfl) :
    PE X (.Call (.Attribute a "join" p1) [e] [] pos) (cV G ow 0 fun γ => (f γ).bind fun d => (oR (strO d)).bind fun _ => (g γ).bind fun e => oR (joinD d e)) :=
  (pe_join ha hb hs hbase hline).impD fun σ H Q ⟨B, γ, I, q⟩ => ⟨B, γ, I, q.bind.imp fun d q v B1 H1 x1 hv => by
    obtain ⟨sep, e1, q⟩ := q.bind.oR
    have e2 := strO_eq e1
    subst e2
    have hvs := hv.str
    refine ⟨⟨sep, hvs⟩, B1, γ, I.mono x1, q.bind.mono x1 fun e q u B2 H2 x2 hu => ?_⟩
    obtain ⟨z, ez, q⟩ := q.oR
    have key : ∀ ds : List D, (strsO ds).bind (fun ys => if (ys.map (·.length)).sum + ys.length * sep.length ≤ LIM then some (PyData.str (Str.join sep ys)) else none) = some z → ∀ us, DnAll G.K H2 us ds → ∃ ys : List Str, us = ys.map V.str ∧ (ys.map (·.length)).sum + ys.length * sep.length ≤ LIM ∧ z = .str (Str.join sep ys) := fun ds ez us hus => by
      rw [Option.bind_eq_some_iff] at ez
      obtain ⟨ys, h1, h2⟩ := ez
      split at h2
      · rename_i hc
        cases h2
        have := strsO_map h1
        subst this
        exact ⟨ys, hus.strs, hc, rfl⟩
      · cases h2
    have hu' := hu.flu x2.s
    cases e with
    | list ds =>
      have ez : (strsO ds).bind _ = some z := ez
      cases hu' with
      | lst r hd =>
        obtain ⟨ys, rfl, hc, rfl⟩ := key ds ez _ hd
        exact ⟨sep, _, ys, hvs, rfl, .inl (by rw [hK]; exact .inl r), Nat.le_trans hc (by decide), by rw [TL.join_eq]; exact q _ B2 H2 (x1.trans x2) (Dn.str _)⟩
    | tuple ds =>
      have ez : (strsO ds).bind _ = some z := ez
      cases hu' with
      | tup r hd =>
        obtain ⟨ys, rfl, hc, rfl⟩ := key ds ez _ hd
        exact ⟨sep, _, ys, hvs, rfl, .inr (by rw [hK]; exact .inl (.inl r)), Nat.le_trans hc (by decide), by rw [TL.join_eq]; exact q _ B2 H2 (x1.trans x2) (Dn.str _)⟩
    | _ => cases ez⟩
/-! x.startswith(y) -/
def stwD : D → D → Option D
  | .str x, .str y => some (.bool (Txt.startswith x y))
  | _, _ => none
theorem d_stw (ha : PE X a (cV G ow 1 f)) (hb : PE X e (cV G ow 1 g)) (hs : starEach [e] X.env = [(false, eval e X.env)] := by rfl) (hbase : attributeBase a "startswith" X.env (eval a X.env) = eval a X.env := by rfl) (hline : (p1.endLine == pos.line) = true := by rfl) :
    PE X (.Call (.Attribute a "startswith" p1) [e] [] pos) (cV G ow 0 fun γ => (f γ).bind fun d => (oR (strO d)).bind fun _ => (g γ).bind fun e => oR (stwD d e)) :=
  (pe_m1 PySem.F.slot_str_startswith PySem.F.type_str_startswith mt_startswith ha hb hs hbase hline).impD fun σ H Q ⟨B, γ, I, q⟩ => ⟨B, γ, I, q.bind.imp fun d q v B1 H1 x1 hv => by
    obtain ⟨sep, e1, q⟩ := q.bind.oR
    have e2 := strO_eq e1
    subst e2
    have hvs := hv.str
    refine ⟨⟨sep, hvs⟩, B1, γ, I.mono x1, q.bind.mono x1 fun e q u B2 H2 x2 hu => ?_⟩
    obtain ⟨z, ez, q⟩ := q.oR
    unfold stwD at ez
    split at ez
    · rename_i x y heq
      cases heq
      cases ez
      exact ⟨_, _, hvs, by rw [hu.str], q _ B2 H2 (x1.trans x2) (.bl _)⟩
    · cases ez⟩
/-! x.split(sep) -/
def splitN : D → D → Option (List D)
  | .str x, .str y => if (y.length == 0) = false ∧ x.length ≤ LIM then some ((Txt.split x y).map PyData.str) else none
  | _, _ => none
theorem dn_strs {K : PySem.W.Frag} {H : Hp} : ∀ ys : List Str, DnAll K H (ys.map V.str) (ys.map PyData.str)
  | [] => .nil
  | y :: ys => .cons (.str y) (dn_strs ys)
theorem n_split (ha : PE X a (cV G ow 1 f)) (hb : PE X e (cV G ow 1 g)) (hs : starEach [e] X.env = [(false, eval e X.env)] := by rfl) (hbase : attributeBase a "split" X.env (eval a X.env) = eval a X.env := by rfl) (hline : (p1.endLine == pos.line) = true := by rfl) :
    PE X (.Call (.Attribute a "split" p1) [e] [] pos) (cN G ow fun γ => (f γ).bind fun d => (oR (strO d)).bind fun _ => (g γ).bind fun e => oR (splitN d e)) :=
  (pe_split ha hb hs hbase hline).impD fun σ H Q ⟨B, γ, I, q⟩ => ⟨B, γ, I, q.bind.imp fun d q v B1 H1 x1 hv => by
    obtain ⟨sep, e1, q⟩ := q.bind.oR
    have e2 := strO_eq e1
    subst e2
    have hvs := hv.str
    refine ⟨⟨sep, hvs⟩, B1, γ, I.mono x1, q.bind.mono x1 fun e q u B2 H2 x2 hu => ?_⟩
    obtain ⟨z, ez, q⟩ := q.oR
    unfold splitN at ez
    split at ez
    · rename_i x y heq
      cases heq
      split at ez
      · rename_i hc
        cases ez
        exact ⟨_, _, hvs, by rw [hu.str], hc.1, Nat.le_trans (Nat.add_le_add_right hc.2 2) (by decide), fun r hr => q r _ B2 _ ((x1.trans x2).trans (.hid x2.s hr)) ((x1.trans x2).h.free hr) (same_none x2.s hr) upd_same (dn_strs _)⟩
      · cases ez
    · cases ez⟩
/-! int(text), str(text) -/
def intT : List D → Option D
  | [.str x] => if x.length ≤ 640 then (intText? x).map PyData.int else none
  | _ => none
theorem d_intT (hm : X.mg "int" = none) (ha : PA X (e :: es) (cA G ow 1 fs)) (hg : Gl X "int" := by rfl) (he : starEach (e :: es) X.env = (false, eval e X.env) :: starEach es X.env := by rfl) (hpl : (backTo pos (starEach es X.env)).any (·.1) = false := by rfl) :
    PE X (.Call (.Name "int" p) (e :: es) [] pos) (cV G ow 0 fun γ => (fs γ).bind fun ds => oR (intT ds)) :=
  d_callT ⟨by
    intro B H vs ds z Q s hx hz q
    unfold intT at hz
    split at hz
    · split at hz
      · rename_i hc
        rw [Option.map_eq_some_iff] at hz
        obtain ⟨n, h1, rfl⟩ := hz
        cases hx with
        | cons h t => cases t; exact ⟨_, n, by rw [DnF.str h], h1, hc, q _ B H (.refl s) (.int _)⟩
      · cases hz
    · cases hz⟩ call_int_str hm (by decide +kernel) ha hg (by decide) (by decide) he hpl
def strA : List D → Option D
  | [.int i] => if i.natAbs.log2 < 1920 then some (.str (toString i)) else none
  | [.str x] => some (.str x)
  | _ => none
theorem d_strA (hm : X.mg "str" = none) (ha : PA X (e :: es) (cA G ow 1 fs)) (hg : Gl X "str" := by rfl) (he : starEach (e :: es) X.env = (false, eval e X.env) :: starEach es X.env := by rfl) (hpl : (backTo pos (starEach es X.env)).any (·.1) = false := by rfl) :
    PE X (.Call (.Name "str" p) (e :: es) [] pos) (cV G ow 0 fun γ => (fs γ).bind fun ds => oR (strA ds)) :=
  d_callT (r := fun xs H Q => (∃ i, xs = [.int i] ∧ i.natAbs.log2 < 1920 ∧ Q (.str (toString i)) H) ∨ ∃ a, xs = [.str a] ∧ Q (.str a) H) ⟨by
    intro B H vs ds z Q s hx hz q
    unfold strA at hz
    split at hz
    · split at hz
      · rename_i hc
        cases hz
        cases hx with
        | cons h t => cases t; exact .inl ⟨_, by rw [DnF.int h], hc, q _ B H (.refl s) (.str _)⟩
      · cases hz
    · cases hz
      cases hx with
      | cons h t => cases t; exact .inr ⟨_, by rw [DnF.str h], q _ B H (.refl s) (.str _)⟩
    · cases hz⟩ (CallR.or call_str_int SkE.call_str_str) hm (by decide +kernel) ha hg (by decide) (by decide) he hpl
end
end DL
set_option Elab.async false
set_option linter.all false
set_option maxRecDepth 100000
set_option maxHeartbeats 4000000
/-! The data layer: an own list that is lent to a call. -/
namespace DL
open PySem PySem.Spec PyProof.Rows L2

/-! ### what does not hang on the place -/
open Classical in
/-- the answer that is the same at all places -/
noncomputable def lendR {α : Type} (F : Addr → Rs α) : Rs α := if h : ∃ r, ∀ p, F p = r then Classical.choose h else .no
theorem lendR_eq {α : Type} {F : Addr → Rs α} {r : Rs α} (h : ∀ p, F p = r) : lendR F = r := by
  have hh : ∃ r, ∀ p, F p = r := ⟨r, h⟩
  have e : lendR F = Classical.choose hh := dif_pos hh
  rw [e, ← Classical.choose_spec hh 0, h 0]
theorem lendR_at {α : Type} {F : Addr → Rs α} (p : Addr) (h : lendR F ≠ .no) : lendR F = F p := by
  by_cases hh : ∃ r, ∀ p, F p = r
  · have e : lendR F = Classical.choose hh := dif_pos hh
    rw [e, Classical.choose_spec hh p]
  · exact absurd (dif_neg hh) h
abbrev adr (p : Addr) : D := .dict [(.bool false, .int (p : Nat))]
def isAdr (q : Addr) : D → Bool
  | .dict [(.bool false, .int i)] => i == (q : Nat)
  | _ => false
theorem isAdr_eq {q : Addr} {d : D} (h : isAdr q d = true) : d = adr q := by
  unfold isAdr at h
  split at h
  · rw [eq_of_beq h]
  · cases h
@[simp] theorem isAdr_adr (q : Addr) : isAdr q (adr q) = true := by
  show (((q : Nat) : Int) == ((q : Nat) : Int)) = true
  exact beq_self_eq_true _
theorem dn_adr {K : PySem.W.Frag} {H : Hp} {v : V} {p : Addr} (h : Dn K H v (adr p)) : v = .ref p := by
  generalize hd : adr p = d at h
  cases h with
  | adr =>
    injection hd with h1
    injection h1 with h2 h3
    injection h2 with h4 h5
    injection h5 with h6
    rw [Int.ofNat_inj.mp h6]
  | dic h1 h2 =>
    injection hd with h3
    cases h2 with
    | nil => cases h3
    | cons h4 h5 =>
      rename_i k v kvs d es
      injection h3 with h6 h7
      injection h6 with h8 h9
      cases k <;> cases h8
  | dct h1 h2 =>
    injection hd with h3
    cases h2 with
    | nil => cases h3
    | cons h4 h5 =>
      injection h3 with h6 h7
      injection h6 with h8 h9
      cases h8
  | lkk h1 h2 => injection hd with h3; injection h3 with h4 h5; injection h4 with h6 h7; cases h6
  | lkt h1 h2 => injection hd with h3; injection h3 with h4 h5; injection h4 with h6 h7; cases h6
  | rng h1 => injection hd with h3; injection h3 with h4 h5; injection h4 with h6 h7; cases h7
  | rol h1 h2 => injection hd with h3; injection h3 with h4 h5; injection h4 with h6 h7; cases h6
  | _ => cases hd
def era (p : Addr) (H : Hp) : Hp := fun a => if a = p then none else H a
theorem era_ne {p a : Addr} {H : Hp} (h : a ≠ p) : era p H a = H a := if_neg h
theorem era_none {p a : Addr} {H : Hp} {o : HO} (h : era p H a = some o) : a ≠ p ∧ H a = some o := by
  unfold era at h
  split at h
  · cases h
  · rename_i e; exact ⟨e, h⟩
/-! ### lent for reading: x = list(the lent one) -/
section
variable {X : Cx} {x : Str} {pos p1 p2 : Pos} {G : Gd} {ow : List Nat}
abbrev rdL (q : Addr) (ls : List D) (i : Nat) : Env → Rs (List D) := fun γ => (gE γ i).bind fun d => if isAdr q d = true then .ok ls else .no
/-- list(x) of the lent list in slot i -/
theorem n_listL {q : Addr} {xs : List V} {ls : List D} (hG : G.H q = some (.lst xs) ∧ DnAll G.K G.B xs ls) (i : Nat) (hm : X.mg "list" = none) (h0 : ow.getD i 0 = 0 := by rfl) (hN : X.N[i]? = some x := by rfl) (hv : Vis X.env.scope x := by first | exact Or.inl rfl | exact Or.inr (Or.inl rfl) | exact Or.inr (Or.inr rfl)) (hd : (x == ("__debug__" : Str)) = false := by decide) (hcd : (x == ("__classdict__" : Str)) = false := by decide)
    (hg : Gl X "list" := by rfl) (he : starEach [.Name x p1] X.env = (false, eval (.Name x p1) X.env) :: starEach [] X.env := by rfl) (hpl : (backTo pos (starEach [] X.env)).any (·.1) = false := by rfl) (hK : X.K = G.K := by rfl) :
    PE X (.Call (.Name "list" p2) [.Name x p1] [] pos) (cN G ow (rdL q ls i)) :=
  (pe_callTy (hK ▸ call_list_of) hg hm (by decide +kernel) (pa_cons (pe_var hN hv hd hcd) pa_nil he) (by decide) (by decide) he hpl).impD fun σ H Q ⟨B, γ, I, q'⟩ => by
    obtain ⟨d, e, q'⟩ := q'.bind.gE
    obtain ⟨own, h1, h2, h3⟩ := I.v
    obtain ⟨v, e1, r1⟩ := h3 i d e
    rw [h0] at r1
    split at q'
    · rename_i hq
      have hq := isAdr_eq hq
      subst hq
      have := dn_adr r1
      subst this
      have hH := I.e.h _ _ hG.1
      exact ⟨_, e1, q, xs, rfl, .inl (.inl (.inl hH)), fun r hr => q' r _ B _ (.hid I.s hr) hr (same_none I.s hr) upd_same (hG.2.mono I.e.b)⟩
    · exact q'.elim
end
/-- the promise of a def whose first argument is lent for reading -/
def spR (K : PySem.W.Frag) (mg : Str → Option Value) (n : Nat) (F : Addr → List D → List D → Rs D) : Sp := fun vs H Q E => vs.length = n ∧ ∃ B q vs' xs ls ds, vs = .ref q :: vs' ∧ Same B H ∧ B q = none ∧ H q = some (.lst xs) ∧ DnAll K B xs ls ∧ Paired (Dn K B) vs' ds ∧ match F q ls ds with
  | .ok d => ∀ v B' H', Ext B H B' H' → Dn K B' v d → Q v H'
  | _ => False
def callR (m : Nat) (g : Addr → List D → Env → Out) (q : Addr) (ls ds : List D) : Rs D := match g q ls (some (adr q) :: (ds.map some ++ List.replicate (m - (ds.length + 1)) none)) with
  | .rt d => .ok d
  | .nx _ => .ok .none
  | _ => .no
section
variable {P : Program} {w : World} {K : PySem.W.Frag} {mg : Str → Option Value} {base : Heap}
theorem ok_ofR {x qual : Str} {st : Stmt} {f : Addr} {fd : FuncData} {N ps : List Str} {k : Nat} {g : Addr → List D → Env → Out} {owN : List Nat} (F : Fun K x qual st f fd) (S : FnScope N ps (defScope st))
    (hbody : ∀ (cdv : Value) (A : Around) (outer : List PySem.Env) (s : Shared) (H B : Hp) (E : XK) (q : Addr) (xs : List V) (ls : List D), (H q = some (.lst xs) ∧ DnAll K B xs ls) → Room k (A.deeper (envOfC qual (defScope st) s.heap.objs.size f cdv)) →
      PSs (cxOf (L2.CX P w) P w K mg base N qual (defScope st) f cdv A outer s H E) (defBody st) (cS ⟨K, mg, fun cls d _ H' => E cls d H', B, H, none⟩ (List.replicate N.length 0) owN [] (g q ls))) :
    FnOk P w K mg base (L2.CX P w) (k + 1) f fd ps (spR K mg ps.length (callR N.length g)) := by
  refine F.okX S (fun vs H Q E h => h.1) fun cdv A outer s H vs Q E hr h => ?_
  obtain ⟨hl, B, q, vs', xs, ls, ds, rfl, sB, hBq, hHq, hxs, hds, h⟩ := h
  refine ⟨_, hbody cdv A outer s H B E q xs ls ⟨hHq, hxs⟩ hr, ?_⟩
  have hds' : DnAll K B (.ref q :: vs') (adr q :: ds) := .cons .adr (.of_paired hds)
  refine ⟨B, some (adr q) :: (ds.map some ++ List.replicate (N.length - (ds.length + 1)) none), ⟨sB, .refl sB, ?_, (fun t z => nomatch z), fun _ _ => False, fun _ _ z => False.elim z, fun _ _ _ z => False.elim z, fun i d e => ?_⟩, ?_⟩
  · unfold L2.start
    rw [List.length_cons, List.length_append, List.length_append, List.length_map, List.length_map, List.length_replicate, List.length_replicate, List.length_cons, paired_len hds]
    omega
  · have e' : ((adr q :: ds).map some ++ List.replicate (N.length - (ds.length + 1)) none)[i]? = some (some d) := e
    have hi : i < (adr q :: ds).length := by
      by_cases hi : i < (adr q :: ds).length
      · exact hi
      · rw [List.getElem?_append_right (by rw [List.length_map]; omega), List.getElem?_replicate] at e'
        split at e' <;> cases e'
    rw [List.getElem?_append_left (by rw [List.length_map]; exact hi), List.getElem?_map, Option.map_eq_some_iff] at e'
    obtain ⟨z, e1, e2⟩ := e'
    cases e2
    obtain ⟨v, e3, e4⟩ := hds'.get e1
    refine ⟨v, ?_, ?_⟩
    · unfold L2.start
      rw [List.getElem?_append_left (by rw [List.length_map, hds'.length]; exact hi), List.getElem?_map, e3]
      rfl
    · have : (List.replicate N.length 0).getD i 0 = 0 := by
        rw [List.getD_eq_getElem?_getD, List.getElem?_replicate]
        split <;> rfl
      rw [this]
      exact e4
  · unfold callR at h
    cases hf : g q ls (some (adr q) :: (ds.map some ++ List.replicate (N.length - (ds.length + 1)) none)) with
    | rt d =>
      rw [hf] at h
      exact fun v B' H' s' x hv => h v B' H' x hv
    | nx γ =>
      rw [hf] at h
      exact fun B' σ' H' s' I => h .non B' H' I.e .non
    | er c fs γ => rw [hf] at h; exact False.elim h
    | bk γ => rw [hf] at h; exact False.elim h
    | ct γ => rw [hf] at h; exact False.elim h
    | no => rw [hf] at h; exact False.elim h
end
section
variable {X : Cx} {x y : Str} {p p1 pos : Pos} {e : Expr} {es : List Expr} {G : Gd} {ow : List Nat} {fs : Env → Rs (List D)} {k n : Nat} {f : Addr} {fd : FuncData} {ps : List Str} {F : Addr → List D → List D → Rs D}
/-- what such a call answers -/
noncomputable abbrev cFR (j n : Nat) (fs : Env → Rs (List D)) (F : Addr → List D → List D → Rs D) : Env → Rs D := fun γ => (lsE γ j).bind fun ls => (fs γ).bind fun ds => if ds.length + 1 = n then lendR fun q => noEr (F q ls ds) else .no
/-- f(y, ..): y an own list that is lent for reading -/
theorem d_callR (j : Nat) (Fn : FnOk X.prog X.w X.K X.mg X.base (L2.CX X.prog X.w) k f fd ps (spR X.K X.mg n F)) (hr : Room k X.A) (hm : X.mg x = some (.ref f)) (hk : PySem.W.keepIn X.K (.ref f) = true) (hb : Binds X.K fd ps []) (tk : Takes X G.W) (ha : PA X es (cA G ow 0 fs))
    (hj : ow.getD j 0 = 1 := by rfl) (hx : G.x = none := by rfl) (hN : X.N[j]? = some y := by rfl) (hv : Vis X.env.scope y := by first | exact Or.inl rfl | exact Or.inr (Or.inl rfl) | exact Or.inr (Or.inr rfl)) (hd : (y == ("__debug__" : Str)) = false := by decide) (hcd : (y == ("__classdict__" : Str)) = false := by decide)
    (hst : starEach (.Name y p1 :: es) X.env = (false, eval (.Name y p1) X.env) :: starEach es X.env := by rfl)
    (hg : Gl X x := by rfl) (hK : X.K = G.K := by rfl) (hdb : (x == ("__debug__" : Str)) = false := by decide) (hpl : (backTo pos (starEach es X.env)).any (·.1) = false := by rfl) :
    PE X (.Call (.Name x p) (.Name y p1 :: es) [] pos) (cV G ow 0 (cFR j n fs F)) :=
  (pe_callS Fn hr hg hm hk hb (fun σ => passAt tk σ) (pa_cons (pe_var hN hv hd hcd) ha hst) hdb hst hpl).impD fun σ H Q ⟨B, γ, I, q⟩ => by
    obtain ⟨ls, hgi, q⟩ := q.bind.lsE
    obtain ⟨a, xs, e1, e2, e3, _⟩ := I.wr hx hj hgi
    refine ⟨.ref a, e1, B, γ, I, q.bind.imp fun ds q vs B1 H1 x1 hvs => ?_⟩
    split at q
    · rename_i hn
      obtain ⟨a', xs', e1', e2', e3', _⟩ := (I.mono x1).wr hx hj hgi
      rw [e1] at e1'
      cases e1'
      have hne : lendR (fun q => noEr (F q ls ds)) ≠ .no := fun z => by rw [z] at q; exact q
      rw [lendR_at a hne] at q
      obtain ⟨own, o1, o2, o3⟩ := (I.mono x1).v
      obtain ⟨v, e4, r⟩ := o3 j _ hgi
      rw [hj] at r
      obtain ⟨a2, xs2, ds2, rfl, r2, r3, r4, r5⟩ := r
      rw [e1] at e4
      cases e4
      have hBa := (o1 j a r3).1
      refine ⟨by rw [List.length_cons, paired_len hvs]; exact hn, B1, a, vs, xs', ls, ds, rfl, x1.s, hBa, e2', by rw [hK]; exact e3', by rw [hK]; exact hvs, ?_⟩
      cases hF : F a ls ds with
      | ok d =>
        rw [hF] at q
        exact fun v B' H' x2 hv => q v B' H' (x1.trans x2) (by rw [← hK]; exact hv)
      | er c fs => rw [hF] at q; exact False.elim q
      | no => rw [hF] at q; exact False.elim q
    · exact False.elim q
end
end DL
set_option Elab.async false
set_option linter.all false
set_option maxRecDepth 100000
set_option maxHeartbeats 4000000
/-! The data layer: an own list that is lent to a call and written there. -/
namespace DL
open PySem PySem.Spec PyProof.Rows L2

inductive OutL where
  | nx (γ : Env) (ls : List D)
  | rt (d : D) (ls : List D)
  | bk (γ : Env) (ls : List D)
  | ct (γ : Env) (ls : List D)
  | no
/-- where a lent list stands: the slot, the place, what stood there at first -/
structure Ln where
  K : PySem.W.Frag
  mg : Str → Option Value
  W : WX
  i : Nat
  p : Addr
  B0 : Hp
  H0 : Hp
abbrev GG (L : Ln) (B H : Hp) : Gd := ⟨L.K, L.mg, L.W, B, H, none⟩
structure LR (L : Ln) (B H : Hp) (σ : L2.St) (γ : Env) (ls : List D) : Prop where
  E : EnvR (GG L B H) [] B H σ γ
  a : γ[L.i]? = some (some (adr L.p))
  h : ∃ xs, H L.p = some (.lst xs) ∧ DnAll L.K B xs ls
  b : B L.p = none
  e : Ext L.B0 (era L.p L.H0) B H
def OutLP (L : Ln) (J : Ends) : OutL → Prop
  | .nx γ ls => ∀ B' σ' H', LR L B' H' σ' γ ls → J.nx σ' H'
  | .rt d ls => ∀ v B' H', Ext L.B0 (era L.p L.H0) B' H' → B' L.p = none → (∃ xs, H' L.p = some (.lst xs) ∧ DnAll L.K B' xs ls) → Dn L.K B' v d → J.rt v H'
  | .bk γ ls => ∀ B' σ' H', LR L B' H' σ' γ ls → J.bk σ' H'
  | .ct γ ls => ∀ B' σ' H', LR L B' H' σ' γ ls → J.ct σ' H'
  | .no => False
def cL (L : Ln) (f : Env → List D → OutL) : TS := fun J σ H => ∃ B γ ls, LR L B H σ γ ls ∧ OutLP L J (f γ ls)
section
variable {L : Ln} {B H B' H' : Hp} {σ σ' : L2.St} {γ γ' : Env} {ls : List D}
theorem EnvR.regr {ow : List Nat} (h0 : ∀ j, ow.getD j 0 = 0) (I : EnvR (GG L B H) ow B' H' σ γ) : EnvR (GG L B' H') [] B' H' σ γ := by
  obtain ⟨own, h1, h2, h3⟩ := I.v
  refine ⟨I.s, .refl I.s, I.len, (fun t z => nomatch z), fun _ _ => False, fun _ _ z => False.elim z, fun _ _ _ z => False.elim z, fun i d e => ?_⟩
  obtain ⟨v, e1, r⟩ := h3 i d e
  rw [h0] at r
  exact ⟨v, e1, r⟩
theorem LR.next {ow : List Nat} (R : LR L B H σ γ ls) (h0 : ∀ j, ow.getD j 0 = 0) (I : EnvR (GG L B H) ow B' H' σ' γ') (ha : γ'[L.i]? = some (some (adr L.p))) : LR L B' H' σ' γ' ls := by
  obtain ⟨xs, h1, h2⟩ := R.h
  exact ⟨I.regr h0, ha, ⟨xs, I.e.h _ _ h1, h2.mono I.e.b⟩, I.e.n _ R.b (nt_lst h1), R.e.trans I.e⟩
theorem LR.ext (R : LR L B H σ γ ls) (x : Ext B H B' H') : LR L B' H' σ γ ls := R.next (ow := []) (fun j => rfl) (R.E.mono x) R.a
end
/-- the slot still tells the same place -/
def adrN : Option (Option D) → Option Int
  | some (some (.dict [(.bool false, .int i)])) => some i
  | _ => none
def sameA (i : Nat) (γ γ' : Env) : Bool := decide (adrN γ'[i]? = adrN γ[i]?)
theorem sameA_ok {i : Nat} {γ γ' : Env} {p : Addr} (h : sameA i γ γ' = true) (ha : γ[i]? = some (some (adr p))) : γ'[i]? = some (some (adr p)) := by
  have h := of_decide_eq_true h
  rw [ha] at h
  have h : adrN γ'[i]? = some (p : Nat) := h
  unfold adrN at h
  split at h
  · rename_i j e
    cases h
    exact e
  · cases h
def liftO (i : Nat) (γ : Env) (o : Out) (ls : List D) : OutL := match o with
  | .nx γ' => if sameA i γ γ' = true then .nx γ' ls else .no
  | .rt d => .rt d ls
  | .bk γ' => if sameA i γ γ' = true then .bk γ' ls else .no
  | .ct γ' => if sameA i γ γ' = true then .ct γ' ls else .no
  | _ => .no
section
variable {X : Cx} {st : Stmt} {rest body els : List Stmt} {e c : Expr} {pos : Pos} {L : Ln} {owN owL : List Nat} {f g : Env → List D → OutL} {fo : Env → Out} {t : Env → Rs Bool} {fe : Env → Rs D}
/-- any statement that does not write the lent list -/
theorem l_of (h : ∀ B H, PS X st (cS (GG L B H) [] owN owL fo)) (hN : ∀ j, owN.getD j 0 = 0) (hL : ∀ j, owL.getD j 0 = 0) : PS X st (cL L fun γ ls => liftO L.i γ (fo γ) ls) := ⟨fun pins s σ H J I ⟨B, γ, ls, R, q⟩ => by
  refine (h B H).run pins s σ H J I ⟨B, γ, R.E, ?_⟩
  have q : OutLP L J (liftO L.i γ (fo γ) ls) := q
  unfold liftO at q
  cases hf : fo γ with
  | nx γ' =>
    rw [hf] at q
    dsimp only at q
    split at q
    · rename_i hc
      exact fun B' σ' H' s' I' => q B' σ' H' (R.next hN I' (sameA_ok hc R.a))
    · exact q.elim
  | rt d =>
    rw [hf] at q
    intro v B' H' s' x hv
    obtain ⟨xs, h1, h2⟩ := R.h
    exact q v B' H' (R.e.trans x) (x.n _ R.b (nt_lst h1)) ⟨xs, x.h _ _ h1, h2.mono x.b⟩ hv
  | bk γ' =>
    rw [hf] at q
    dsimp only at q
    split at q
    · rename_i hc
      exact fun B' σ' H' s' I' => q B' σ' H' (R.next hL I' (sameA_ok hc R.a))
    · exact q.elim
  | ct γ' =>
    rw [hf] at q
    dsimp only at q
    split at q
    · rename_i hc
      exact fun B' σ' H' s' I' => q B' σ' H' (R.next hL I' (sameA_ok hc R.a))
    · exact q.elim
  | er c fs γ' => rw [hf] at q; exact q.elim
  | no => rw [hf] at q; exact q.elim⟩
def seqL (f g : Env → List D → OutL) : Env → List D → OutL := fun γ ls => match f γ ls with
  | .nx γ' ls' => g γ' ls'
  | o => o
theorem l_nil : PSs X [] (cL L .nx) := pss_nil.impD fun J σ H ⟨B, γ, ls, R, q⟩ => q B σ H R
theorem l_one (h : PS X st (cL L f)) : PSs X [st] (cL L f) := pss_one h
theorem l_cons (h : PS X st (cL L f)) (hr : PSs X rest (cL L g)) : PSs X (st :: rest) (cL L (seqL f g)) := (pss_cons h hr).impD fun J σ H ⟨B, γ, ls, R, q⟩ => by
  refine ⟨B, γ, ls, R, ?_⟩
  unfold seqL at q
  cases hf : f γ ls with
  | nx γ1 ls1 =>
    rw [hf] at q
    exact fun B' σ' H' R' => ⟨B', γ1, ls1, R', q⟩
  | rt d ls => rw [hf] at q; exact q
  | bk γ ls => rw [hf] at q; exact q
  | ct γ ls => rw [hf] at q; exact q
  | no => rw [hf] at q; exact q
/-- tests -/
def cLT (L : Ln) (t : Env → Rs Bool) : TT := fun σ H Q => ∃ B γ ls, LR L B H σ γ ls ∧ match t γ with
  | .ok b => ∀ B' H', LR L B' H' σ γ ls → Q b H'
  | _ => False
theorem lt_of (h : ∀ B H, PT X e (cT (GG L B H) [] t)) : PT X e (cLT L t) := ⟨fun pins s σ H Q I ⟨B, γ, ls, R, q⟩ => by
  refine (h B H).run pins s σ H Q I ⟨B, γ, R.E, ?_⟩
  cases ht : t γ with
  | ok b => rw [ht] at q; exact fun B' H' x => q B' H' (R.ext x)
  | er c fs => rw [ht] at q; exact q.elim
  | no => rw [ht] at q; exact q.elim⟩
def ifL (t : Env → Rs Bool) (f g : Env → List D → OutL) : Env → List D → OutL := fun γ ls => match t γ with
  | .ok b => if b = true then f γ ls else g γ ls
  | _ => .no
theorem l_if (h : ∀ B H, PT X e (cT (GG L B H) [] t)) (ha : PSs X body (cL L f)) (hb : PSs X els (cL L g)) : PS X (.If e body els pos) (cL L (ifL t f g)) :=
  (ps_if (lt_of h) ha hb).impD fun J σ H ⟨B, γ, ls, R, q⟩ => by
    refine ⟨B, γ, ls, R, ?_⟩
    unfold ifL at q
    cases ht : t γ with
    | ok b =>
      rw [ht] at q
      intro B' H' R'
      cases b with
      | true => exact ⟨B', γ, ls, R', q⟩
      | false => exact ⟨B', γ, ls, R', q⟩
    | er c fs => rw [ht] at q; exact q
    | no => rw [ht] at q; exact q
def whileL (t : Env → Rs Bool) (b : Env → List D → OutL) : Nat → Env → List D → OutL
  | 0, _, _ => .no
  | n + 1, γ, ls => match t γ with
    | .ok c => if c = true then
        match b γ ls with
        | .nx γ2 ls2 => whileL t b n γ2 ls2
        | .ct γ2 ls2 => whileL t b n γ2 ls2
        | .bk γ2 ls2 => .nx γ2 ls2
        | o => o
      else .nx γ ls
    | _ => .no
theorem l_while (hp : PassesOwn (model X.prog X.w) X.A X.env X.xe) (h : ∀ B H, PT X c (cT (GG L B H) [] t)) (hb : PSs X body (cL L f)) : PS X (.While c body [] pos) (cL L fun γ ls => whileL t f FUEL γ ls) :=
  (ps_while hp (lt_of h) hb).impD fun J σ H ⟨B, γ, ls, R, q⟩ => by
    refine ⟨fun m σ' H' => ∃ B' γ' ls', LR L B' H' σ' γ' ls' ∧ OutLP L J (whileL t f m γ' ls'), ⟨FUEL, B, γ, ls, R, q⟩, fun m σ' H' hW => ?_⟩
    obtain ⟨B', γ', ls', R', q'⟩ := hW
    cases m with
    | zero => exact q'.elim
    | succ m =>
      unfold whileL at q'
      refine ⟨B', γ', ls', R', ?_⟩
      cases ht : t γ' with
      | er c fs => rw [ht] at q'; exact q'
      | no => rw [ht] at q'; exact q'
      | ok c =>
        rw [ht] at q'
        intro B1 H1 R1
        cases c with
        | false => exact q' B1 σ' H1 R1
        | true =>
          dsimp only at q'
          rw [if_pos rfl] at q' ⊢
          refine ⟨fun σ2 H2 => ∃ B2 γ2 ls2, LR L B2 H2 σ2 γ2 ls2 ∧ OutLP L J (whileL t f m γ2 ls2), fun σ2 H2 hN => ⟨m, by omega, hN⟩, B1, γ', ls', R1, ?_⟩
          cases hbo : f γ' ls' with
          | nx γ2 ls2 => rw [hbo] at q'; exact fun B4 σ4 H4 R4 => ⟨B4, γ2, ls2, R4, q'⟩
          | ct γ2 ls2 => rw [hbo] at q'; exact fun B4 σ4 H4 R4 => ⟨B4, γ2, ls2, R4, q'⟩
          | bk γ2 ls2 => rw [hbo] at q'; exact fun B4 σ4 H4 R4 => q' B4 σ4 H4 R4
          | rt d ls2 => rw [hbo] at q'; exact q'
          | no => rw [hbo] at q'; exact q'
/-- values -/
def cLV (L : Ln) (fe : Env → Rs D) (γ : Env) (ls : List D) : TE := fun σ H Q => ∃ B, LR L B H σ γ ls ∧ match fe γ with
  | .ok d => ∀ v B' H', LR L B' H' σ γ ls → Dn L.K B' v d → Q v H'
  | _ => False
def cLE (L : Ln) (fe : Env → Rs D) : TE := fun σ H Q => ∃ B γ ls, LR L B H σ γ ls ∧ match fe γ with
  | .ok d => ∀ v B' H', LR L B' H' σ γ ls → Dn L.K B' v d → Q v H'
  | _ => False
theorem le_of (h : ∀ B H, PE X e (cV (GG L B H) [] 0 fe)) : PE X e (cLE L fe) := ⟨fun pins s σ H Q I ⟨B, γ, ls, R, q⟩ => by
  refine (h B H).run pins s σ H Q I ⟨B, γ, R.E, ?_⟩
  cases hf : fe γ with
  | ok d => rw [hf] at q; exact fun v B' H' x hv => q v B' H' (R.ext x) hv
  | er c fs => rw [hf] at q; exact q.elim
  | no => rw [hf] at q; exact q.elim⟩
/-- x.append(e), x the lent list -/
def appL (i : Nat) (fe : Env → Rs D) : Env → List D → OutL := fun γ ls => match fe γ with
  | .ok d => if ls.length < LIM then .nx γ (ls ++ [d]) else .no
  | _ => .no
theorem l_append {x : Str} {p1 p2 p3 : Pos} (h : ∀ B H, PE X e (cV (GG L B H) [] 0 fe)) (hi : X.N[L.i]? = some x := by rfl) (hv : Vis X.env.scope x := by first | exact Or.inl rfl | exact Or.inr (Or.inl rfl) | exact Or.inr (Or.inr rfl))
    (hd : (x == ("__debug__" : Str)) = false := by decide) (hcd : (x == ("__classdict__" : Str)) = false := by decide)
    (hbase : attributeBase (.Name x p1) "append" X.env (eval (.Name x p1) X.env) = eval (.Name x p1) X.env := by rfl) (hst : starEach [e] X.env = (false, eval e X.env) :: starEach [] X.env := by rfl)
    (h1 : PE X (.Name x p1) (tVar L.i) → PA X [e] (tCons (cLE L fe) tNil) → PE X (.Call (.Attribute (.Name x p1) "append" p2) [e] [] p3) (tBM X.K "list" rAppend (tVar L.i) (tCons (cLE L fe) tNil)) := by
      exact fun h1 h2 => pe_bm PySem.F.plainAttrs_list PySem.F.slot_list_append PySem.F.type_list_append mt_append h1 h2)
    (hs : swapsWith (.Call (.Attribute (.Name x p1) "append" p2) [e] [] p3) none pos.line X.env = pure false := by rfl) :
    PS X (.Expr (.Call (.Attribute (.Name x p1) "append" p2) [e] [] p3) pos) (cL L (appL L.i fe)) :=
  (ps_expr (h1 (pe_var hi hv hd hcd) (pa_cons (le_of h) pa_nil hst)) hs).impD fun J σ H ⟨B, γ, ls, R, q⟩ => by
    obtain ⟨own, o1, o2, o3⟩ := R.E.v
    obtain ⟨v0, e1, r1⟩ := o3 L.i _ R.a
    have := dn_adr r1
    subst this
    obtain ⟨xs, hx1, hx2⟩ := R.h
    refine ⟨.ref L.p, e1, .inl ⟨rfl, xs, .inl (.inl hx1)⟩, B, γ, ls, R, ?_⟩
    unfold appL at q
    cases hf : fe γ with
    | er c fs => rw [hf] at q; exact q
    | no => rw [hf] at q; exact q
    | ok d =>
      rw [hf] at q
      dsimp only at q
      split at q
      · rename_i hlt
        intro v B1 H1 R1 hv
        obtain ⟨xs1, hy1, hy2⟩ := R1.h
        refine ⟨L.p, xs1, v, rfl, rfl, hy1, by rw [hy2.length]; exact lim_lt hlt, q B1 σ _ ?_⟩
        have sB : Same B1 (upd H1 L.p (.lst (xs1 ++ [v]))) := fun a u z => by
          have : a ≠ L.p := fun y => by subst y; rw [R1.b] at z; cases z
          rw [upd_ne this]; exact R1.E.s a u z
        refine ⟨⟨sB, .refl sB, R1.E.len, (fun t z => nomatch z), R1.E.v.elim fun own ⟨z1, z2, z3⟩ => ⟨fun _ _ => False, fun _ _ z => False.elim z, fun _ _ _ z => False.elim z, fun i d e => z3 i d e⟩⟩, R1.a, ⟨_, upd_same, hy2.append (.cons hv .nil)⟩, R1.b, ⟨R1.e.b, fun a u z => ?_, sB, R1.e.n⟩⟩
        obtain ⟨z1, z2⟩ := era_none z
        rw [upd_ne z1]
        exact R1.e.h a u z
      · exact q.elim
end
/-! ### the promise of such a def: its last argument is lent -/
def spW (K : PySem.W.Frag) (mg : Str → Option Value) (n : Nat) (F : Addr → List D → List D → Rs (D × List D)) : Sp := fun vs H Q E => vs.length = n ∧ ∃ B q vs' xs ls ds, vs = vs' ++ [.ref q] ∧ Same B H ∧ B q = none ∧ H q = some (.lst xs) ∧ DnAll K B xs ls ∧ Paired (Dn K B) vs' ds ∧ match F q ls ds with
  | .ok r => ∀ v B' H', Ext B (era q H) B' H' → B' q = none → (∃ xs', H' q = some (.lst xs') ∧ DnAll K B' xs' r.2) → Dn K B' v r.1 → Q v H'
  | _ => False
def callW (m : Nat) (g : Env → List D → OutL) (q : Addr) (ls ds : List D) : Rs (D × List D) := match g (ds.map some ++ some (adr q) :: List.replicate (m - (ds.length + 1)) none) ls with
  | .rt d ls' => .ok (d, ls')
  | .nx _ ls' => .ok (.none, ls')
  | _ => .no
section
variable {P : Program} {w : World} {K : PySem.W.Frag} {mg : Str → Option Value} {base : Heap}
theorem ok_ofW {x qual : Str} {st : Stmt} {f : Addr} {fd : FuncData} {N ps : List Str} {k n : Nat} {g : Env → List D → OutL} (F : Fun K x qual st f fd) (S : FnScope N ps (defScope st)) (hn : ps.length = n + 1)
    (hbody : ∀ (cdv : Value) (A : Around) (outer : List PySem.Env) (s : Shared) (H B : Hp) (E : XK) (q : Addr), Room k (A.deeper (envOfC qual (defScope st) s.heap.objs.size f cdv)) →
      PSs (cxOf (L2.CX P w) P w K mg base N qual (defScope st) f cdv A outer s H E) (defBody st) (cL ⟨K, mg, fun cls d _ H' => E cls d H', n, q, B, H⟩ g)) :
    FnOk P w K mg base (L2.CX P w) (k + 1) f fd ps (spW K mg ps.length (callW N.length g)) := by
  refine F.okX S (fun vs H Q E h => h.1) fun cdv A outer s H vs Q E hr h => ?_
  obtain ⟨hl, B, q, vs', xs, ls, ds, rfl, sB, hBq, hHq, hxs, hds, h⟩ := h
  refine ⟨_, hbody cdv A outer s H B E q hr, ?_⟩
  have hds' : DnAll K B (vs' ++ [.ref q]) (ds ++ [adr q]) := (DnAll.of_paired hds).append (.cons .adr .nil)
  have hlen : ds.length = n := by
    have := paired_len hds
    rw [List.length_append, List.length_cons, List.length_nil] at hl
    omega
  have hγ : ds.map some ++ some (adr q) :: List.replicate (N.length - (ds.length + 1)) none = (ds ++ [adr q]).map some ++ List.replicate (N.length - (ds.length + 1)) none := by
    rw [List.map_append, List.append_assoc]; rfl
  refine ⟨B, ds.map some ++ some (adr q) :: List.replicate (N.length - (ds.length + 1)) none, ls, ⟨⟨sB, .refl sB, ?_, (fun t z => nomatch z), fun _ _ => False, fun _ _ z => False.elim z, fun _ _ _ z => False.elim z, fun i d e => ?_⟩, ?_, ⟨xs, hHq, hxs⟩, hBq, ⟨.refl _, fun a u z => (era_none z).2, sB, fun a z _ => z⟩⟩, ?_⟩
  · unfold L2.start
    rw [hγ, List.length_append, List.length_append, List.length_map, List.length_map, List.length_replicate, List.length_replicate, List.length_append, List.length_append, paired_len hds]
    rfl
  · rw [hγ] at e
    have hi : i < (ds ++ [adr q]).length := by
      by_cases hi : i < (ds ++ [adr q]).length
      · exact hi
      · rw [List.getElem?_append_right (by rw [List.length_map]; omega), List.getElem?_replicate] at e
        split at e <;> cases e
    rw [List.getElem?_append_left (by rw [List.length_map]; exact hi), List.getElem?_map, Option.map_eq_some_iff] at e
    obtain ⟨z, e1, e2⟩ := e
    cases e2
    obtain ⟨v, e3, e4⟩ := hds'.get e1
    refine ⟨v, ?_, e4⟩
    unfold L2.start
    rw [List.getElem?_append_left (by rw [List.length_map, hds'.length]; exact hi), List.getElem?_map, e3]
    rfl
  · rw [List.getElem?_append_right (by rw [List.length_map]; exact Nat.le_of_eq hlen), List.length_map, hlen, Nat.sub_self]
    rfl
  · unfold callW at h
    cases hf : g (ds.map some ++ some (adr q) :: List.replicate (N.length - (ds.length + 1)) none) ls with
    | rt d ls' =>
      rw [hf] at h
      exact fun v B' H' x hb hx hv => h v B' H' x hb hx hv
    | nx γ ls' =>
      rw [hf] at h
      exact fun B' σ' H' R => h .non B' H' R.e R.b R.h .non
    | bk γ ls' => rw [hf] at h; exact False.elim h
    | ct γ ls' => rw [hf] at h; exact False.elim h
    | no => rw [hf] at h; exact False.elim h
end
/-! ### the call -/
section
variable {G : Gd} {ow : List Nat} {B H B' H' : Hp} {σ : L2.St} {γ : Env}
/-- the list of a slot of its own has been written elsewhere -/
theorem EnvR.lent (I : EnvR G ow B H σ γ) {i : Nat} {ls : List D} (hx : G.x = none) (hk : ow.getD i 0 = 1) (hg : γ[i]? = some (some (.list ls))) :
    ∃ p xs, σ[i]? = some (some (.ref p)) ∧ H p = some (.lst xs) ∧ DnAll G.K B xs ls ∧ B p = none ∧ ∀ B' H' ys es, Ext B (era p H) B' H' → B' p = none → H' p = some (.lst ys) → DnAll G.K B' ys es → EnvR G ow B' H' σ (γ.set i (some (.list es))) := by
  obtain ⟨own, h1, h2, h3⟩ := I.v
  obtain ⟨v, e, r⟩ := h3 i _ hg
  rw [hk] at r
  obtain ⟨p, xs, ds', rfl, q2, q3, q4, q5⟩ := r
  cases q2
  obtain ⟨b1, b2, b3⟩ := h1 i p q3
  refine ⟨p, xs, e, q4, q5, b1, fun B' H' ys es x hb hp hy => ?_⟩
  have nt : ∀ a, a ≠ p → NT H a → NT (era p H) a := fun a z ⟨o, e, n⟩ => ⟨o, by rw [era_ne z]; exact e, n⟩
  refine ⟨x.s, ⟨I.e.b.trans x.b, fun a u z => x.h a u ?_, x.s, fun a z1 z2 => ?_⟩, by rw [List.length_set, I.len], (fun t z => by rw [hx] at z; cases z), fun j a => if j = i then a = p else own j a, fun j a hj => ?_, fun j k a hj hk => ?_, fun j d q => ?_⟩
  · have : a ≠ p := fun y => by subst y; rw [b2] at z; cases z
    rw [era_ne this]; exact I.e.h a u z
  · have : a ≠ p := fun y => by subst y; exact z2.ne b2
    exact x.n a (I.e.n a z1 z2) (nt a this (z2.mono I.e.h))
  · dsimp only at hj
    split at hj
    · subst hj
      exact ⟨hb, b2, nt_lst hp⟩
    · rename_i hne
      obtain ⟨c1, c2, c3⟩ := h1 j a hj
      have : a ≠ p := fun y => by subst y; exact hne (h2 j i _ hj q3)
      exact ⟨x.n a c1 (nt a this c3), c2, (nt a this c3).mono x.h⟩
  · dsimp only at hj hk
    split at hj
    · rename_i e1
      split at hk
      · rename_i e2; rw [e1, e2]
      · subst hj
        exact e1.trans (h2 i k _ q3 hk)
    · split at hk
      · rename_i e2
        subst hk
        exact (h2 j i _ hj q3).trans e2.symm
      · exact h2 j k a hj hk
  · by_cases z : j = i
    · subst z
      have hj : j < γ.length := I.lt hg
      rw [List.getElem?_set_self hj] at q
      cases q
      refine ⟨_, e, ?_⟩
      rw [hk]
      exact ⟨p, ys, es, rfl, rfl, by dsimp only; rw [if_pos rfl], hp, hy⟩
    · rw [List.getElem?_set_ne (Ne.symm z)] at q
      obtain ⟨w, e1, r⟩ := h3 j d q
      refine ⟨w, e1, ?_⟩
      have e5 : (fun a => if j = i then a = p else own j a) = own j := by
        funext a; rw [if_neg z]
      show SR G.K (fun a => if j = i then a = p else own j a) B' H' _ w d
      rw [e5]
      exact (r.keepH (H' := era p H) fun a ha => era_ne fun y => by subst y; exact z (h2 j i _ ha q3)).mono x
end
/-- arguments, the last one an own list -/
def cAW (G : Gd) (ow : List Nat) (j : Nat) (f : Env → Rs (List D)) : TA := fun σ H Q => ∃ B γ, EnvR G ow B H σ γ ∧ RsP G σ B H (f γ) fun ds => ∀ vs v B' H', Ext B H B' H' → Paired (Dn G.K B') vs ds → σ[j]? = some (some v) → Q (vs ++ [v]) H'
section
variable {X : Cx} {x y z : Str} {p p1 p2 pos : Pos} {a e : Expr} {es : List Expr} {G : Gd} {ow ow' owL : List Nat} {f : Env → Rs D} {fs : Env → Rs (List D)} {k n : Nat} {fa : Addr} {fd : FuncData} {ps : List Str} {F : Addr → List D → List D → Rs (D × List D)}
abbrev awN (j : Nat) : Env → Rs (List D) := fun γ => (lsE γ j).bind fun _ => .ok []
abbrev awC (f : Env → Rs D) (fs : Env → Rs (List D)) : Env → Rs (List D) := fun γ => (f γ).bind fun d => (fs γ).bind fun ds => .ok (d :: ds)
theorem aw_nil (j : Nat) (hj : ow.getD j 0 = 1 := by rfl) (hx : G.x = none := by rfl) (hN : X.N[j]? = some y := by rfl) (hv : Vis X.env.scope y := by first | exact Or.inl rfl | exact Or.inr (Or.inl rfl) | exact Or.inr (Or.inr rfl)) (hd : (y == ("__debug__" : Str)) = false := by decide) (hcd : (y == ("__classdict__" : Str)) = false := by decide)
    (hst : starEach [.Name y p1] X.env = (false, eval (.Name y p1) X.env) :: starEach [] X.env := by rfl) : PA X [.Name y p1] (cAW G ow j (awN j)) :=
  (pa_cons (pe_var hN hv hd hcd) pa_nil hst).impD fun σ H Q ⟨B, γ, I, q⟩ => by
    obtain ⟨ls, hgi, q⟩ := q.bind.lsE
    obtain ⟨a, xs, e1, _, _, _⟩ := I.wr hx hj hgi
    exact ⟨.ref a, e1, q [] (.ref a) B H (.refl I.s) .nil e1⟩
theorem aw_cons (j : Nat) (he : PE X e (cV G ow 0 f)) (ha : PA X es (cAW G ow j fs)) (hst : starEach (e :: es) X.env = (false, eval e X.env) :: starEach es X.env := by rfl) : PA X (e :: es) (cAW G ow j (awC f fs)) :=
  (pa_cons he ha hst).impD fun σ H Q ⟨B, γ, I, q⟩ => ⟨B, γ, I, q.bind.imp fun d q v B1 H1 x1 hv => ⟨B1, γ, I.mono x1, q.bind.mono x1 fun ds q vs u B2 H2 x2 hvs hu => q (v :: vs) u B2 H2 (x1.trans x2) (.cons (Dn.mono x2.b hv) hvs) hu⟩⟩
noncomputable def sSetW (i j n : Nat) (fs : Env → Rs (List D)) (F : Addr → List D → List D → Rs (D × List D)) : Env → Out := fun γ => liftS ((fs γ).bind fun ds => (lsE γ j).bind fun ls => if ds.length + 1 = n then lendR fun q => noEr (F q ls ds) else .no) γ fun r => .nx ((γ.set j (some (.list r.2))).set i (some r.1))
/-- z = f(.., y): y an own list that is lent for writing -/
theorem s_setW (i j : Nat) (Fn : FnOk X.prog X.w X.K X.mg X.base (L2.CX X.prog X.w) k fa fd ps (spW X.K X.mg n F)) (hr : Room k X.A) (hm : X.mg x = some (.ref fa)) (hk : PySem.W.keepIn X.K (.ref fa) = true) (hb : Binds X.K fd ps []) (tk : Takes X G.W) (ha : PA X (e :: es) (cAW G ow j fs)) (hN : X.N.Nodup)
    (hw : ow.set i 0 = ow' := by rfl) (hj : ow.getD j 0 = 1 := by rfl) (hx : G.x = none := by rfl) (hi : X.N[i]? = some z := by rfl) (hz : Loc X.env.scope z := by first | exact .inl rfl | exact .inr rfl)
    (hst : starEach (e :: es) X.env = (false, eval e X.env) :: starEach es X.env := by rfl)
    (hg : Gl X x := by rfl) (hK : X.K = G.K := by rfl) (hdb : (x == ("__debug__" : Str)) = false := by decide) (hpl : (backTo pos (starEach es X.env)).any (·.1) = false := by rfl)
    (hs : swapsWith (.Call (.Name x p) (e :: es) [] pos) (some (.Name z p1)) p2.line X.env = pure false := by rfl) (hf : X.fn z = true ∨ X.env.scope.names.lookup z = some .local := by first | exact .inl rfl | exact .inr rfl | assumption) :
    PS X (.Assign [.Name z p1] (.Call (.Name x p) (e :: es) [] pos) p2) (cS G ow ow' owL (sSetW i j n fs F)) :=
  (ps_set hN hi hz (pe_callS Fn hr hg hm hk hb (fun σ => passAt tk σ) ha hdb hst hpl) hs hf).impD fun J σ H ⟨B, γ, I, q⟩ => by
    refine ⟨B, γ, I, (OutP.lift I q).bind.imp fun ds q vs v B1 H1 x1 hvs hv => ?_⟩
    obtain ⟨ls, hgi, q⟩ := q.bind.lsE
    obtain ⟨a, xs, e1, e2, e3, e4, fin⟩ := (I.mono x1).lent hx hj hgi
    rw [e1] at hv
    cases hv
    split at q
    · rename_i hn
      cases hF : F a ls ds with
      | ok r =>
        have hne : lendR (fun q => noEr (F q ls ds)) ≠ .no := fun z => by rw [z] at q; exact q
        rw [lendR_at a hne, hF] at q
        refine ⟨by rw [List.length_append, paired_len hvs]; exact hn, B1, a, vs, xs, ls, ds, rfl, x1.s, e4, e2, by rw [hK]; exact e3, by rw [hK]; exact hvs, ?_⟩
        rw [hF]
        intro v B' H' x hb' ⟨ys, hy1, hy2⟩ hv
        have I2 := fin B' H' ys r.2 x hb' hy1 (by rw [← hK]; exact hy2)
        have I3 := I2.set i hx (v := v) (d := r.1) (by rw [← hK]; exact hv)
        rw [hw] at I3
        exact q B' _ H' (x1.b.trans x.b) I3
      | er c fs =>
        have hne : lendR (fun q => noEr (F q ls ds)) ≠ .no := fun z => by rw [z] at q; exact q
        rw [lendR_at a hne, hF] at q
        exact q.elim
      | no =>
        have hne : lendR (fun q => noEr (F q ls ds)) ≠ .no := fun z => by rw [z] at q; exact q
        rw [lendR_at a hne, hF] at q
        exact q.elim
    · exact False.elim q
end
end DL
set_option Elab.async false
set_option linter.all false
set_option maxRecDepth 100000
set_option maxHeartbeats 4000000
/-! The data layer: isinstance(e, c) in a suite; {k: v, ..} with texts as keys; text * int. -/
namespace DL
open PySem PySem.Spec PyProof.Rows L2

/-- what the class D says, so that isinstance asks its errors rightly -/
structure XiC (K : PySem.W.Frag) (D : Addr) : Prop where
  x : XfC K D
  ha : PySem.W.findIn K (.ref D) "__class__" = some (some (.builtin "object.__class__"))
  hn : PySem.W.specialIn K (.builtin "object.__class__") "__get__" = some (some (.builtin "getset_descriptor.__get__"))
  ht : PySem.W.takesIn K (.builtin "object.__class__") = some true
  hm : PySem.W.mroIn K D (.type "object") = some true
def rIsX (K : PySem.W.Frag) (D a : Addr) (d : Option Addr) : List V → Hp → VK → Prop := fun xs H Q => ∃ (c : V) (cv : Value) (b : Bool) (dd : Addr) (fs : List (Str × V)), xs = [.ref a, c] ∧ (∀ u, RelV c u → u = cv) ∧ PySem.W.kitOne K (.ref D) cv = some b ∧ d = some dd ∧ H dd = some (.xd fs) ∧ Q (.bl b) H
theorem call_isX {X : Cx} {a D : Addr} {oe : Obj} {cls : Value} {d : Option Addr} {pn : List (Addr × Obj)} (C : XiC X.K D) (hz : Zc cls d oe) (hc : cls = .ref D) (hf : ∃ vs, oe.data = .fields vs) : CallR (X.suite a ((a, oe) :: pn)) (.builtin "isinstance") (rIsX X.K D a d) := by
  subst hc
  intro pins s σ H xs us Q I r h
  obtain ⟨c, cv, b, dd, fs, rfl, hcv, e, ed, ea, q⟩ := h
  subst ed
  cases r with
  | cons rx rr =>
    cases rr with
    | cons rt rr =>
      cases rr
      cases rx
      have ec := hcv _ rt
      subst ec
      obtain ⟨hget, _⟩ := I.pin (a, oe) (List.mem_append.mpr (.inl List.mem_cons_self))
      obtain ⟨vs, hv⟩ := hf
      have hx : ObjOk X.prog X.w H s.heap dd (.xd fs) := I.hok dd _ ea
      obtain ⟨mA, hns, hr⟩ := hx
      obtain ⟨od, ho, hl⟩ := lookIn_ns hns
      have J : PySem.W.InstAt s.heap a oe D (some od) := ⟨hget, hz.1, by unfold PySem.W.notCls; rw [hv] <;> rfl, by rw [hz.2]; exact ho⟩
      have hcl : (PySem.W.clsIn X.K D).isSome = true := by obtain ⟨cd, hc, _⟩ := PySem.W.any_some C.x.hdC; rw [hc]; rfl
      exact PySem.W.kia_one (PySem.W.kitx_exc hcl C.x.ga C.x.gg C.x.exC C.ha C.hn C.ht C.hm) I.kIn J e (fun z => nomatch z) fun tk => ⟨.bl b, H, I.kept (t' := tk) fun _ _ z => z, rfl, q⟩
section
variable {X : Cx} {a C : Addr} {oe : Obj} {cls : Value} {d : Option Addr} {pn : List (Addr × Obj)} {x n : Str} {p p1 p2 pos : Pos} {i : Nat} {G : Gd} {dd : Addr} {fs' : List (Str × V)} {fs : List (Str × D)} {B H : Hp} {cv : Value} {b : Bool} {ow : List Nat}
/-- isinstance(e, c), c an own class -/
theorem d_isE (T : XiC X.K C) {C2 : Addr} (h2 : X.mg n = some (.ref C2)) (hk : PySem.W.kitOne X.K (.ref C) (.ref C2) = some b) (hm : X.mg "isinstance" = none) (hz : Zc cls d oe) (hf : ∃ vs, oe.data = .fields vs) (hd : d = some dd) (hcl : cls = .ref C)
    (hi : X.N[i]? = some x := by rfl) (hv : Vis X.env.scope x := by first | exact Or.inl rfl | exact Or.inr (Or.inl rfl) | exact Or.inr (Or.inr rfl)) (hdb : (x == ("__debug__" : Str)) = false := by decide) (hcd : (x == ("__classdict__" : Str)) = false := by decide)
    (hg : Gl X "isinstance" := by rfl) (hgn : Gl X n := by rfl) (hdn : (n == ("__debug__" : Str)) = false := by decide)
    (he : starEach [.Name x p1, .Name n p2] X.env = (false, eval (.Name x p1) X.env) :: starEach [.Name n p2] X.env := by rfl) (hpl : (backTo pos (starEach [.Name n p2] X.env)).any (·.1) = false := by rfl) (he2 : starEach [.Name n p2] X.env = [(false, eval (.Name n p2) X.env)] := by rfl) :
    PE (X.suite a ((a, oe) :: pn)) (.Call (.Name "isinstance" p) [.Name x p1, .Name n p2] [] pos) (cV (G.sui (some i) a dd fs' B H) ow 0 fun _ => .ok (.bool b)) :=
  (pe_callB (X := X.suite a ((a, oe) :: pn)) (call_isX T hz hcl hf) hg hm rfl (pa_cons (pe_var (X := X.suite a ((a, oe) :: pn)) hi hv hdb hcd) (pa_cons (C8.pe_gc (X := X.suite a ((a, oe) :: pn)) (v := .ref C2) hgn ⟨_, h2, rfl⟩ hdn) pa_nil he2) he) (by decide) (by decide) he hpl).impD fun σ H' Q ⟨B', γ, I, q⟩ => by
    obtain ⟨x1, x2⟩ := I.x _ rfl
    exact ⟨.ref a, x1, .ref C2, .ref C2, b, dd, fs', rfl, fun u hu => hu, hk, hd, x2, q (.bl b) B' H' (.refl I.s) (.bl b)⟩
/-- .. c a built-in class -/
theorem d_isEB (T : XiC X.K C) {U : String} (h2 : X.mg n = none) (hvn : bootBuiltins n = some (.type U)) (hk : PySem.W.kitOne X.K (.ref C) (.type U) = some b) (hm : X.mg "isinstance" = none) (hz : Zc cls d oe) (hf : ∃ vs, oe.data = .fields vs) (hd : d = some dd) (hcl : cls = .ref C)
    (hi : X.N[i]? = some x := by rfl) (hv : Vis X.env.scope x := by first | exact Or.inl rfl | exact Or.inr (Or.inl rfl) | exact Or.inr (Or.inr rfl)) (hdb : (x == ("__debug__" : Str)) = false := by decide) (hcd : (x == ("__classdict__" : Str)) = false := by decide)
    (hg : Gl X "isinstance" := by rfl) (hgn : Gl X n := by rfl) (hdn : (n == ("__debug__" : Str)) = false := by decide) (hnn : n ≠ "__name__" := by decide)
    (he : starEach [.Name x p1, .Name n p2] X.env = (false, eval (.Name x p1) X.env) :: starEach [.Name n p2] X.env := by rfl) (hpl : (backTo pos (starEach [.Name n p2] X.env)).any (·.1) = false := by rfl) (he2 : starEach [.Name n p2] X.env = [(false, eval (.Name n p2) X.env)] := by rfl) :
    PE (X.suite a ((a, oe) :: pn)) (.Call (.Name "isinstance" p) [.Name x p1, .Name n p2] [] pos) (cV (G.sui (some i) a dd fs' B H) ow 0 fun _ => .ok (.bool b)) :=
  (pe_callB (X := X.suite a ((a, oe) :: pn)) (call_isX T hz hcl hf) hg hm rfl (pa_cons (pe_var (X := X.suite a ((a, oe) :: pn)) hi hv hdb hcd) (pa_cons (pe_bltn (X := X.suite a ((a, oe) :: pn)) (v := .ty U) hgn h2 hvn rfl hnn hdn) pa_nil he2) he) (by decide) (by decide) he hpl).impD fun σ H' Q ⟨B', γ, I, q⟩ => by
    obtain ⟨x1, x2⟩ := I.x _ rfl
    exact ⟨.ref a, x1, .ty U, .type U, b, dd, fs', rfl, fun u hu => hu, hk, hd, x2, q (.bl b) B' H' (.refl I.s) (.bl b)⟩
end
theorem kit_ref {K : PySem.W.Frag} {C C2 : Addr} {b : Bool} (h : PySem.W.subIn K (.ref C) (.ref C2) = some b) (hd : PySem.W.hasDictIn K C2 = true) (ht : PySem.W.typeIn K (.ref C2) = some (.type "type")) (hne : ((Value.ref C : Value) == Value.ref C2) = true → b = true) : PySem.W.kitOne K (.ref C) (.ref C2) = some b := by
  unfold PySem.W.kitOne
  split
  · rename_i z
    rw [hne z]
  · show (if _ then _ else _) = _
    obtain ⟨cd, hc, _⟩ := PySem.W.any_some hd
    rw [if_pos (by rw [hc, ht]; rfl)]
    exact h
theorem kit_typ {K : PySem.W.Frag} {C : Addr} {U : String} {b : Bool} (h : PySem.W.subIn K (.ref C) (.type U) = some b) (hk : PySem.W.kitMeta U = true := by decide +kernel) : PySem.W.kitOne K (.ref C) (.type U) = some b := by
  unfold PySem.W.kitOne
  rw [if_neg (by intro z; cases beq_iff_eq.mp z)]
  show (if _ then _ else _) = _
  rw [if_pos hk]
  exact h
/-! text * int -/
def repS (x : Str) (n : Int) : Str := ⟨(List.replicate n.toNat x.cps).foldl (· ++ ·) #[]⟩
theorem op_mulS {X : Cx} : OpR X (binaryOp .Mult) (fun x y H Q => ∃ (i : Str) (n : Int), x = .str i ∧ y = .int n ∧ (2 ≤ n ∧ n ≤ 1000) ∧ (1 ≤ i.length ∧ i.length ≤ 1000) ∧ Q (.str (repS i n)) H) := by
  intro pins s σ H x y v u Q I rx ry h
  obtain ⟨i, n, rfl, rfl, hn, hi, q⟩ := h
  obtain ⟨t, rfl⟩ := rx
  obtain ⟨t', rfl⟩ := ry
  have hb : (n == 1 || i.length == 0) = false := by
    rw [beq_eq_false_iff_ne.mpr (by omega), beq_eq_false_iff_ne.mpr (by omega)]; rfl
  have hm : i.length * n.toNat ≤ 1000000 := Nat.le_trans (Nat.mul_le_mul hi.2 (show n.toNat ≤ 1000 by omega)) (by decide)
  refine PySem.P.mul_str ?_ (fun _ _ => ?_) (fun _ _ => ?_) ?_
  · rw [decide_eq_false (by omega), decide_eq_false (by omega)]; rfl
  · have : (1000 : Int) ≤ (2 ^ 63 - 1) / n := Int.le_ediv_of_mul_le (by omega) (by omega)
    omega
  · exact decide_eq_false (by rw [sizeLine_eq]; omega)
  · rw [if_neg (by omega), if_neg (by rw [hb]; decide)]
    refine ⟨fits_reps (decide_eq_false (by rw [sizeLine_eq]; omega)), .str (repS i n), H, I.tok _, ⟨_, rfl⟩, q⟩
def mulSD : D → D → Option D
  | .str i, .int n => if (2 ≤ n ∧ n ≤ 1000) ∧ (1 ≤ i.length ∧ i.length ≤ 1000) then some (.str (repS i n)) else none
  | _, _ => none
theorem hr_mulS {K : PySem.W.Frag} : HR K (fun x y H Q => ∃ (i : Str) (n : Int), x = .str i ∧ y = .int n ∧ (2 ≤ n ∧ n ≤ 1000) ∧ (1 ≤ i.length ∧ i.length ≤ 1000) ∧ Q (.str (repS i n)) H) mulSD := by
  refine ⟨?_⟩; intro B H x y d e z Q s hx hy hz q
  unfold mulSD at hz
  split at hz
  · rename_i i n
    split at hz
    · rename_i hc
      cases hz
      exact ⟨i, n, hx.str, hy.int, hc.1, hc.2, q _ B H (.refl s) (.str _)⟩
    · cases hz
  · cases hz
theorem d_mulS {X : Cx} {a b : Expr} {pos : Pos} {G : Gd} {ow : List Nat} {f g : Env → Rs D} (ha : PE X a (cV G ow 1 f)) (hb : PE X b (cV G ow 1 g)) : PE X (.BinOp a .Mult b pos) (cV G ow 0 (b2 f g mulSD)) := d_bin hr_mulS op_mulS ha hb
/-! {"..": n, ..} -/
def trsC (l : List (Str × Int)) : List (TE × TE) := l.map fun q => (tC (.str q.1), tC (.int q.2))
theorem tPairs_c {σ : L2.St} {H : Hp} : ∀ (l : List (Str × Int)) (Q : List (V × V) → Hp → Prop), Q (l.map fun q => (.str q.1, .int q.2)) H → tPairs (trsC l) σ H Q
  | [], Q, q => q
  | (k, n) :: r, Q, q => tPairs_c r _ q
def mk3C (l : List (Str × Int)) : D := mk3 (l.foldl (fun acc q => putG acc (.inr q.1) (.int q.2)) [])
theorem merge_rel {K : PySem.W.Frag} {B : Hp} : ∀ (l : List (Str × Int)) {kvs : List (Key × V)} {es : List (Key × D)}, PrR K B kvs es → PrR K B (mergeK kvs (l.map fun q => (.inr q.1, .int q.2))) (l.foldl (fun acc q => putG acc (.inr q.1) (.int q.2)) es)
  | [], _, _, h => h
  | (k, n) :: r, _, _, h => merge_rel r (pr_put h (.int n))
@[simp] abbrev sDispC (i : Nat) (l : List (Str × Int)) : Env → Out := fun γ => .nx (γ.set i (some (mk3C l)))
section
variable {X : Cx} {x : Str} {p' p1 pos : Pos} {G : Gd} {ow ow' owL : List Nat} {keys : List (Option Expr)} {values : List Expr}
theorem s_dispC (i : Nat) (l : List (Str × Int)) (hN : X.N.Nodup) (hp : PPs X pos keys values (trsC l)) (hall : keys.all (·.isSome) = true := by rfl) (hl : keys.length = values.length := by rfl) (h0 : keys ≠ [] := by decide) (h15 : keys.length ≤ 15 := by decide) (hll : l.length ≤ 15 := by decide)
    (hw : ow.set i 3 = ow' := by rfl) (hlt : i < ow.length := by decide) (hi : X.N[i]? = some x := by rfl) (hx : Loc X.env.scope x := by first | exact .inl rfl | exact .inr rfl) (hg : G.x = none := by rfl)
    (hs : swapsWith (.Dict keys values pos) (some (.Name x p')) p1.line X.env = pure false := by rfl) (hf : X.fn x = true ∨ X.env.scope.names.lookup x = some .local := by first | exact .inl rfl | exact .inr rfl | assumption) :
    PS X (.Assign [.Name x p'] (.Dict keys values pos) p1) (cS G ow ow' owL (sDispC i l)) :=
  (ps_set hN hi hx (pe_disp hp hall hl h0 h15) hs hf).impD fun J σ H ⟨B, γ, I, q⟩ => fun p hp => by
    refine tPairs_c l _ ⟨upd_same, l.map fun q => (.inr q.1, .int q.2), by rw [List.map_map]; rfl, by rw [List.length_map]; exact hll, ?_⟩
    rw [upd_upd]
    refine q B _ _ (.refl _) ?_
    rw [← hw]
    exact I.setO i hg hlt (.hid I.s hp) hp (same_none I.s hp) ⟨_, upd_same, fun _ z => nomatch z⟩ ⟨p, _, _, rfl, rfl, rfl, upd_same, kv_of (merge_rel l .nil)⟩
end
end DL
set_option Elab.async false
set_option linter.all false
set_option maxRecDepth 100000
set_option maxHeartbeats 8000000

/-! What the defs of the text compute, on data (printed by gen.py). -/
namespace DL
open PySem PySem.Spec PyProof.Rows L2


/-- check_between(value, least, most): value, least, most -/
def g_check_between : Env → Out := ifS (tOr' (b1 (b2 (eV 0) (eV 1) ltD) boolO) (b1 (b2 (eV 0) (eV 2) gtD) boolO)) (sRa ("OutOfRange" : Str) [("value" : Str)] ("OutOfRange" : Str) (aC (eV 0) (aN))) (sNx)
def F_check_between : List D → Rs D := callS 3 g_check_between
/-- gcd_of(a, b): a, b -/
def g_gcd_of : Env → Out := seqS (sWh (b1 (b2 (eV 1) (eC (.int 0)) gtD) boolO) (sPar 0 1 (aC (eV 1) (aC (b2 (eV 0) (eV 1) modD) (aN))))) (sRet (eV 0))
def F_gcd_of : List D → Rs D := callS 2 g_gcd_of
/-- lcm_of(a, b): a, b -/
def g_lcm_of : Env → Out := sRet (b2 (b2 (eV 0) (eV 1) mulD) (cF 2 (aC (eV 0) (aC (eV 1) (aN))) F_gcd_of) fdivD)
def F_lcm_of : List D → Rs D := callS 2 g_lcm_of
/-- is_order(order): order -/
def g_is_order : Env → Out := sRet (b2 (eL (cB (aC (eV 0) (aN)) srtD)) (eL (b1 (cB (aC (eV 0) (aN)) lenD) rgL1)) eqD)
def F_is_order : List D → Rs D := callS 1 g_is_order
/-- check_order(order): order -/
def g_check_order : Env → Out := ifS (tNot' (b1 (cF 1 (aC (eV 0) (aN)) F_is_order) truD)) (sRa0 ("NotOrder" : Str) ("NotOrder" : Str)) (sNx)
def F_check_order : List D → Rs D := callS 1 g_check_order
/-- behind(cards, order): cards, order, place -/
def g_behind : Env → Out := sRet (eL (nLc [2] (b1 (eV 1) lstO) (tgN 2) (tsYes) (b2 (eV 0) (eV 2) ixD)))
def F_behind : List D → Rs D := callS 3 g_behind
/-- backward(order): order, found, place -/
def g_backward : Env → Out := seqS (sNew 1 (nRep (nL (aC (eC (.int 0)) (aN))) (cB (aC (eV 0) (aN)) lenD))) (seqS (sFor (cB (aC (cB (aC (eV 0) (aN)) lenD) (aN)) rg1) (tgN 2) (putS 1 (eV 2) (b2 (eV 0) (eV 2) ixD))) (sRet (eV 1)))
def F_backward : List D → Rs D := callS 3 g_backward
/-- cycles_of(order): order, goes, seen, found, place, cycle -/
def g_cycles_of : Env → Out := seqS (sSet 1 (cF 1 (aC (eV 0) (aN)) F_backward)) (seqS (sNew 2 (nRep (nL (aC (eC (.bool false)) (aN))) (cB (aC (eV 0) (aN)) lenD))) (seqS (sNew 3 (nL (aN))) (seqS (sFor (cB (aC (cB (aC (eV 0) (aN)) lenD) (aN)) rg1) (tgN 4) (seqS (sNew 5 (nL (aN))) (seqS (sWh (tNot' (b1 (b2 (eV 2) (eV 4) ixD) truD)) (seqS (putS 2 (eC (.bool true)) (eV 4)) (seqS (appS 5 (eV 4)) (sSet 4 (b2 (eV 1) (eV 4) ixD))))) (ifS (b1 (b2 (cB (aC (eV 5) (aN)) lenD) (eC (.int 0)) gtD) boolO) (appS 3 (eV 5)) (sNx))))) (sRet (eV 3)))))
def F_cycles_of : List D → Rs D := callS 6 g_cycles_of
/-- period_of(order): order, period, cycle -/
def g_period_of : Env → Out := seqS (sSet 1 (eC (.int 1))) (seqS (sFor (b1 (cF 1 (aC (eV 0) (aN)) F_cycles_of) lstO) (tgN 2) (sSet 1 (cF 2 (aC (eV 1) (aC (cB (aC (eV 2) (aN)) lenD) (aN))) F_lcm_of))) (sRet (eV 1)))
def F_period_of : List D → Rs D := callS 3 g_period_of
/-- _law_cell(script, k): script, k -/
def g__law_cell : Env → Out := seqS (ifS (b1 (b2 (eV 1) (cB (aC (eV 0) (aN)) lenD) ltD) boolO) (sRet (b2 (eV 0) (eV 1) ixD)) (sNx)) (sRet (eC (.int 0)))
def F__law_cell : List D → Rs D := callS 2 g__law_cell
/-- _law_draw(cell, limits): cell, limits, row, rest, great, k, mixed -/
def g__law_draw : Env → Out := seqS (sNew 2 (nL (aN))) (seqS (sSet 3 (cB (aC (eV 0) (aN)) absD)) (seqS (sSet 4 (b2 (eV 3) (eC (.int 1000000000000000000)) geD)) (seqS (sFor (cB (aC (cB (aC (eV 1) (aN)) lenD) (aN)) rg1) (tgN 5) (ifS (tAnd' (b1 (eV 4) truD) (b1 (b2 (eV 3) (b2 (eV 1) (eV 5) ixD) geD) boolO)) (seqS (appS 2 (b2 (cB (aC (eV 3) (aN)) intD) (b2 (eV 1) (eV 5) ixD) modD)) (sSet 3 (b2 (eV 3) (b2 (eV 1) (eV 5) ixD) fdivD))) (seqS (sSet 6 (b2 (cB (aC (b2 (b2 (cB (aC (eV 0) (aN)) absD) (eC (.int 48271)) mulD) (b2 (b2 (eV 5) (eC (.int 1)) addD) (eC (.int 69621)) mulD) addD) (aN)) intD) (eC (.int 2147483647)) modD)) (seqS (sSet 6 (b2 (cB (aC (b2 (b2 (eV 6) (eC (.int 16807)) mulD) (b2 (b2 (eV 5) (eC (.int 1)) addD) (eC (.int 40692)) mulD) addD) (aN)) intD) (eC (.int 2147483399)) modD)) (appS 2 (b2 (cB (aC (eV 6) (aN)) intD) (b2 (eV 1) (eV 5) ixD) modD)))))) (sRet (eV 2)))))
def F__law_draw : List D → Rs D := callS 7 g__law_draw
/-- _law_order(cell, most): cell, most, d, left, order, pick, k -/
def g__law_order : Env → Out := seqS (sSet 2 (cF 2 (aC (eV 0) (aC (eL (nL (aC (b2 (eV 1) (eC (.int 1)) addD) (aN)))) (aN))) F__law_draw)) (seqS (sNew 3 (nLc [6] (cB (aC (b2 (eV 2) (eC (.int 0)) ixD) (aN)) rg1) (tgN 6) (tsYes) (eV 6))) (seqS (sNew 4 (nL (aN))) (seqS (sFor (b1 (cF 2 (aC (b2 (b2 (eV 0) (eC (.int 5)) fdivD) (eC (.int 3)) addD) (aC (eL (nLc [6] (cB (aC (b2 (eV 2) (eC (.int 0)) ixD) (aN)) rg1) (tgN 6) (tsYes) (b2 (b2 (eV 2) (eC (.int 0)) ixD) (eV 6) subD))) (aN))) F__law_draw) lstO) (tgN 5) (seqS (appS 4 (b2 (eV 3) (eV 5) ixD)) (sSet 3 (b2 (eCut (eV 3) (oN) (oS (eV 5))) (eCut (eV 3) (oS (b2 (eV 5) (eC (.int 1)) addD)) (oN)) addD)))) (sRet (eV 4)))))
def F__law_order : List D → Rs D := callS 7 g__law_order
/-- _law_of_size(cell, size): cell, size, left, order, pick, k -/
def g__law_of_size : Env → Out := seqS (sNew 2 (nLc [5] (cB (aC (eV 1) (aN)) rg1) (tgN 5) (tsYes) (eV 5))) (seqS (sNew 3 (nL (aN))) (seqS (sFor (b1 (cF 2 (aC (eV 0) (aC (eL (nLc [5] (cB (aC (eV 1) (aN)) rg1) (tgN 5) (tsYes) (b2 (eV 1) (eV 5) subD))) (aN))) F__law_draw) lstO) (tgN 4) (seqS (appS 3 (b2 (eV 2) (eV 4) ixD)) (sSet 2 (b2 (eCut (eV 2) (oN) (oS (eV 4))) (eCut (eV 2) (oS (b2 (eV 4) (eC (.int 1)) addD)) (oN)) addD)))) (sRet (eV 3))))
def F__law_of_size : List D → Rs D := callS 6 g__law_of_size
/-- _law_then(first, second): first, second, k -/
def g__law_then : Env → Out := sRet (eL (nLc [2] (b1 (eV 1) lstO) (tgN 2) (tsYes) (b2 (eV 0) (eV 2) ixD)))
def F__law_then : List D → Rs D := callS 3 g__law_then
/-- _law_back(order): order, k -/
def g__law_back : Env → Out := sRet (eL (nLc [1] (cB (aC (cB (aC (eV 0) (aN)) lenD) (aN)) rg1) (tgN 1) (tsYes) (eIdx (eV 0) (aC (eV 1) (aN)))))
def F__law_back : List D → Rs D := callS 2 g__law_back
/-- _law_gcd(a, b): a, b, k, rest -/
def g__law_gcd : Env → Out := seqS (sFor (cB (aC (eC (.int 2000)) (aN)) rg1) (tgN 2) (seqS (ifS (b1 (b2 (eV 1) (eC (.int 0)) eqD) boolO) (sBk) (sNx)) (seqS (sSet 3 (b2 (cB (aC (eV 0) (aN)) intD) (eV 1) modD)) (seqS (sSet 0 (eV 1)) (sSet 1 (eV 3)))))) (sRet (eV 0))
def F__law_gcd : List D → Rs D := callS 4 g__law_gcd
/-- _law_cycles(order): order, after, seen, found, begin, cycle, at, turn -/
def g__law_cycles : Env → Out := seqS (sSet 1 (cF 1 (aC (eV 0) (aN)) F__law_back)) (seqS (sSet 2 (eL (nL (aN)))) (seqS (sNew 3 (nL (aN))) (seqS (sFor (cB (aC (cB (aC (eV 0) (aN)) lenD) (aN)) rg1) (tgN 4) (ifS (b1 (b2 (eV 4) (eV 2) (inD true)) boolO) (seqS (sNew 5 (nL (aN))) (seqS (sSet 6 (eV 4)) (seqS (sFor (cB (aC (cB (aC (eV 0) (aN)) lenD) (aN)) rg1) (tgN 7) (seqS (ifS (b1 (b2 (eV 6) (eV 5) (inD false)) boolO) (sBk) (sNx)) (seqS (appS 5 (eV 6)) (sSet 6 (b2 (eV 1) (eV 6) ixD))))) (seqS (sSet 2 (b2 (eV 2) (eV 5) addD)) (appS 3 (eV 5)))))) (sNx))) (sRet (eV 3)))))
def F__law_cycles : List D → Rs D := callS 8 g__law_cycles
/-- _law_period(order): order, least, cycle -/
def g__law_period : Env → Out := seqS (sSet 1 (eC (.int 1))) (seqS (sFor (b1 (cF 1 (aC (eV 0) (aN)) F__law_cycles) lstO) (tgN 2) (sSet 1 (b2 (b2 (eV 1) (cF 2 (aC (eV 1) (aC (cB (aC (eV 2) (aN)) lenD) (aN))) F__law_gcd) fdivD) (cB (aC (eV 2) (aN)) lenD) mulD))) (sRet (eV 1)))
def F__law_period : List D → Rs D := callS 3 g__law_period
/-- _law_many(order, n): order, n, here, turn, k -/
def g__law_many : Env → Out := seqS (sNew 2 (nLc [4] (cB (aC (cB (aC (eV 0) (aN)) lenD) (aN)) rg1) (tgN 4) (tsYes) (eV 4))) (seqS (sFor (cB (aC (b2 (cB (aC (eV 1) (aN)) intD) (cF 1 (aC (eV 0) (aN)) F__law_period) modD) (aN)) rg1) (tgN 3) (sSet 2 (cF 2 (aC (eV 2) (aC (eV 0) (aN))) F__law_then))) (sRet (eV 2)))
def F__law_many : List D → Rs D := callS 5 g__law_many
end DL
set_option Elab.async false
set_option linter.all false
set_option maxRecDepth 100000
set_option maxHeartbeats 8000000

/-! What the defs of the text compute, on data (printed by gen.py). -/
namespace DL
open PySem PySem.Spec PyProof.Rows L2


/-- rising_of(order): order, goes, found, card -/
def g_rising_of : Env → Out := seqS (sSet 1 (cF 1 (aC (eV 0) (aN)) F_backward)) (seqS (sNew 2 (nL (aN))) (seqS (sFor (cB (aC (cB (aC (eV 0) (aN)) lenD) (aN)) rg1) (tgN 3) (ifS (tAnd' (b1 (b2 (eV 3) (eC (.int 0)) gtD) boolO) (b1 (b2 (b2 (eV 1) (eV 3) ixD) (b2 (eV 1) (b2 (eV 3) (eC (.int 1)) subD) ixD) gtD) boolO)) (appInS 2 (b1 (eC (.int 1)) negD) (eV 3)) (appS 2 (eL (nL (aC (eV 3) (aN))))))) (sRet (eV 2))))
def F_rising_of : List D → Rs D := callS 4 g_rising_of
/-- factorial(n): n, product, number -/
def g_factorial : Env → Out := seqS (sSet 1 (eC (.int 1))) (seqS (sFor (cB (aC (eC (.int 2)) (aC (b2 (eV 0) (eC (.int 1)) addD) (aN))) rg2) (tgN 2) (sAug 1 (eV 2) mulD)) (sRet (eV 1)))
def F_factorial : List D → Rs D := callS 3 g_factorial
/-- order_at(cards, n): cards, n, digits, size, left, found, digit -/
def g_order_at : Env → Out := seqS (sNew 2 (nL (aN))) (seqS (sFor (cB (aC (eC (.int 1)) (aC (b2 (cB (aC (eV 0) (aN)) lenD) (eC (.int 1)) addD) (aN))) rg2) (tgN 3) (seqS (appS 2 (b2 (eV 1) (eV 3) modD)) (sSet 1 (b2 (eV 1) (eV 3) fdivWD)))) (seqS (sSet 4 (eL (cB (aC (eV 0) (aN)) lstD))) (seqS (sNew 5 (nL (aN))) (seqS (sFor (b1 (eL (b1 (eV 2) revLD)) lstO) (tgN 6) (seqS (appS 5 (b2 (eV 4) (eV 6) ixD)) (sSet 4 (b2 (eCut (eV 4) (oN) (oS (eV 6))) (eCut (eV 4) (oS (b2 (eV 6) (eC (.int 1)) addD)) (oN)) addD)))) (sRet (eV 5))))))
def F_order_at : List D → Rs D := callS 7 g_order_at
end DL
set_option Elab.async false
set_option linter.all false
set_option maxRecDepth 100000
set_option maxHeartbeats 8000000

/-! What the defs of the text compute, on data (printed by gen.py). -/
namespace DL
open PySem PySem.Spec PyProof.Rows L2


abbrev tab_LENGTHS : List (Str × D) := [("cut", .int 2), ("out", .int 1), ("in", .int 1), ("monge", .int 1), ("milk", .int 1), ("deal", .int 3), ("run", .int 2), ("over", .int 1), ("under", .int 3)]
/-- is_shuffle(shuffle): shuffle -/
def g_is_shuffle : Env → Out := seqS (ifS (tOr' (b1 (b2 (cB (aC (eV 0) (aN)) lenD) (eC (.int 0)) eqD) boolO) (tOr' (b1 (b1 (b2 (eV 0) (eC (.int 0)) ixD) (inW tab_LENGTHS true)) boolO) (b1 (b2 (cB (aC (eV 0) (aN)) lenD) (b1 (b2 (eV 0) (eC (.int 0)) ixD) (ixW tab_LENGTHS)) neD) boolO))) (sRet (eC (.bool false))) (sNx)) (seqS (ifS (b1 (b2 (b2 (eV 0) (eC (.int 0)) ixD) (eC (.str "deal")) eqD) boolO) (sRet (eAnd (eCh leD leD (eC (.int 1)) (b2 (eV 0) (eC (.int 1)) ixD) (eC (.int 100))) (b2 (eL (cB (aC (b2 (eV 0) (eC (.int 2)) ixD) (aN)) srtD)) (eL (b1 (b2 (eV 0) (eC (.int 1)) ixD) rgL1)) eqD))) (sNx)) (seqS (ifS (b1 (b2 (b2 (eV 0) (eC (.int 0)) ixD) (eC (.str "run")) eqD) boolO) (sRet (b2 (b2 (eV 0) (eC (.int 1)) ixD) (eC (.int 0)) geD)) (sNx)) (seqS (ifS (b1 (b2 (b2 (eV 0) (eC (.int 0)) ixD) (eC (.str "under")) eqD) boolO) (sRet (eAnd (eCh leD leD (eC (.int 1)) (b2 (eV 0) (eC (.int 1)) ixD) (eC (.int 100))) (eCh leD leD (eC (.int 0)) (b2 (eV 0) (eC (.int 2)) ixD) (eC (.int 100))))) (sNx)) (sRet (eC (.bool true))))))
def F_is_shuffle : List D → Rs D := callS 1 g_is_shuffle
/-- check_shuffle(shuffle): shuffle -/
def g_check_shuffle : Env → Out := ifS (tNot' (b1 (cF 1 (aC (eV 0) (aN)) F_is_shuffle) truD)) (sRa0 ("BadShuffle" : Str) ("BadShuffle" : Str)) (sNx)
def F_check_shuffle : List D → Rs D := callS 1 g_check_shuffle
/-- check_sized(shuffle, n, least, most): shuffle, n, least, most -/
def g_check_sized : Env → Out := seqS (sEx (cF 1 (aC (eV 0) (aN)) F_check_shuffle)) (seqS (sEx (cF 3 (aC (eV 1) (aC (eV 2) (aC (eV 3) (aN)))) F_check_between)) (ifS (tAnd' (b1 (b2 (b2 (eV 0) (eC (.int 0)) ixD) (eC (.str "run")) eqD) boolO) (b1 (b2 (b2 (eV 0) (eC (.int 1)) ixD) (eV 1) gtD) boolO)) (sRa ("OutOfRange" : Str) [("value" : Str)] ("OutOfRange" : Str) (aC (b2 (eV 0) (eC (.int 1)) ixD) (aN))) (sNx)))
def F_check_sized : List D → Rs D := callS 4 g_check_sized
/-- faro_order(word, n): word, n, upper, first, second, place -/
def g_faro_order : Env → Out := seqS (sSet 2 (eIf (b1 (b2 (eV 0) (eC (.str "out")) eqD) boolO) (b2 (b2 (eV 1) (eC (.int 1)) addD) (eC (.int 2)) fdivWD) (b2 (eV 1) (eC (.int 2)) fdivWD))) (seqS (sUnp (tgT 2 (tgCons (tgN 3) (tgCons (tgN 4) (tgNil)))) (eIf (b1 (b2 (eV 0) (eC (.str "out")) eqD) boolO) (eT (aC (eC (.int 0)) (aC (eV 2) (aN)))) (eT (aC (eV 2) (aC (eC (.int 0)) (aN)))))) (sRet (eL (nLc [5] (cB (aC (eV 1) (aN)) rg1) (tgN 5) (tsYes) (b2 (eIf (b1 (b2 (b2 (eV 5) (eC (.int 2)) modD) (eC (.int 0)) eqD) boolO) (eV 3) (eV 4)) (b2 (eV 5) (eC (.int 2)) fdivWD) addD)))))
def F_faro_order : List D → Rs D := callS 6 g_faro_order
/-- monge_order(n): n, odd, card -/
def g_monge_order : Env → Out := seqS (sNew 1 (nLc [2] (cB (aC (eC (.int 1)) (aC (eV 0) (aC (eC (.int 2)) (aN)))) rg3) (tgN 2) (tsYes) (eV 2))) (sRet (b2 (eL (b1 (eV 1) revLD)) (eL (nLc [2] (cB (aC (eC (.int 0)) (aC (eV 0) (aC (eC (.int 2)) (aN)))) rg3) (tgN 2) (tsYes) (eV 2))) addD))
def F_monge_order : List D → Rs D := callS 3 g_monge_order
/-- milk_order(n): n, found, card -/
def g_milk_order : Env → Out := seqS (sNew 1 (eIf (b1 (b2 (b2 (eV 0) (eC (.int 2)) modD) (eC (.int 1)) eqD) boolO) (nL (aC (b2 (eV 0) (eC (.int 2)) fdivWD) (aN))) (nL (aN)))) (seqS (sFor (cB (aC (b2 (b2 (eV 0) (eC (.int 2)) fdivWD) (eC (.int 1)) subD) (aC (b1 (eC (.int 1)) negD) (aC (b1 (eC (.int 1)) negD) (aN)))) rg3) (tgN 2) (extS 1 (nL (aC (eV 2) (aC (b2 (b2 (eV 0) (eC (.int 1)) subD) (eV 2) subD) (aN)))))) (sRet (eV 1)))
def F_milk_order : List D → Rs D := callS 3 g_milk_order
/-- deal_order(n, k, stack): n, k, stack, found, pile -/
def g_deal_order : Env → Out := seqS (sNew 3 (nL (aN))) (seqS (sFor (b1 (eV 2) lstO) (tgN 4) (extS 3 (b1 (eL (cB (aC (eV 4) (aC (eV 0) (aC (eV 1) (aN)))) (fun ds => (rg3 ds).bind szL))) revLD))) (sRet (eV 3)))
def F_deal_order : List D → Rs D := callS 5 g_deal_order
/-- dealt_places(n, d, u): n, d, u, queue, head, found, left, gone -/
def g_dealt_places : Env → Out := seqS (sNew 3 (b1 (eV 0) rgL1)) (seqS (sSet 4 (eC (.int 0))) (seqS (sNew 5 (nL (aN))) (seqS (sWh (b1 (b2 (eV 4) (cB (aC (eV 3) (aN)) lenD) ltD) boolO) (seqS (extS 5 (nCut (eV 3) (oS (eV 4)) (oS (b2 (eV 4) (eV 1) addD)))) (seqS (sSet 4 (cB (aC (b2 (eV 4) (eV 1) addD) (aC (cB (aC (eV 3) (aN)) lenD) (aN))) minD)) (seqS (sSet 6 (b2 (cB (aC (eV 3) (aN)) lenD) (eV 4) subD)) (seqS (ifS (b1 (b2 (eV 6) (eC (.int 0)) gtD) boolO) (seqS (sSet 7 (b2 (eV 2) (eV 6) modD)) (seqS (extS 3 (nCut (eV 3) (oS (eV 4)) (oS (b2 (eV 4) (eV 7) addD)))) (sAug 4 (eV 7) addA))) (sNx)) (ifS (b1 (b2 (eV 4) (eC (.int 100000)) gtD) boolO) (seqS (sNew 3 (nCut (eV 3) (oS (eV 4)) (oN))) (sSet 4 (eC (.int 0)))) (sNx))))))) (sRet (eV 5)))))
def F_dealt_places : List D → Rs D := callS 8 g_dealt_places
/-- order_by(shuffle, n): shuffle, n, word, k -/
def g_order_by : Env → Out := seqS (sSet 2 (b2 (eV 0) (eC (.int 0)) ixD)) (seqS (ifS (b1 (b2 (eV 2) (eC (.str "cut")) eqD) boolO) (seqS (sSet 3 (eIf (b1 (b2 (eV 1) (eC (.int 0)) gtD) boolO) (b2 (b2 (eV 0) (eC (.int 1)) ixD) (eV 1) modD) (eC (.int 0)))) (sRet (b2 (eL (b2 (eV 3) (eV 1) rgL2)) (eL (b1 (eV 3) rgL1)) addD))) (sNx)) (seqS (ifS (b1 (b2 (eV 2) (eT (aC (eC (.str "out")) (aC (eC (.str "in")) (aN)))) (inD false)) boolO) (sRet (cF 2 (aC (eV 2) (aC (eV 1) (aN))) F_faro_order)) (sNx)) (seqS (ifS (b1 (b2 (eV 2) (eC (.str "monge")) eqD) boolO) (sRet (cF 1 (aC (eV 1) (aN)) F_monge_order)) (sNx)) (seqS (ifS (b1 (b2 (eV 2) (eC (.str "milk")) eqD) boolO) (sRet (cF 1 (aC (eV 1) (aN)) F_milk_order)) (sNx)) (seqS (ifS (b1 (b2 (eV 2) (eC (.str "deal")) eqD) boolO) (sRet (cF 3 (aC (eV 1) (aC (b2 (eV 0) (eC (.int 1)) ixD) (aC (b2 (eV 0) (eC (.int 2)) ixD) (aN)))) F_deal_order)) (sNx)) (seqS (ifS (b1 (b2 (eV 2) (eC (.str "run")) eqD) boolO) (sRet (b2 (eL (b2 (b2 (eV 0) (eC (.int 1)) ixD) (eV 1) rgL2)) (eL (b1 (eL (b1 (b2 (eV 0) (eC (.int 1)) ixD) rgL1)) revLD)) addD)) (sNx)) (seqS (ifS (b1 (b2 (eV 2) (eC (.str "under")) eqD) boolO) (sRet (eL (b1 (cF 3 (aC (eV 1) (aC (b2 (eV 0) (eC (.int 1)) ixD) (aC (b2 (eV 0) (eC (.int 2)) ixD) (aN)))) F_dealt_places) revLD))) (sNx)) (sRet (eL (b1 (eL (b1 (eV 1) rgL1)) revLD))))))))))
def F_order_by : List D → Rs D := callS 4 g_order_by
/-- _law_run(cards, k): cards, k, top, j -/
def g__law_run : Env → Out := seqS (sNew 2 (nLc [3] (cB (aC (eV 1) (aN)) rg1) (tgN 3) (tsYes) (b2 (eV 0) (b2 (b2 (eV 1) (eC (.int 1)) subD) (eV 3) subD) ixD))) (sRet (b2 (eCut (eV 0) (oS (eV 1)) (oN)) (eV 2) addD))
def F__law_run : List D → Rs D := callS 4 g__law_run
/-- _law_faro(cards, word): cards, word, n, upper, lower, first, second, made, k -/
def g__law_faro : Env → Out := seqS (sSet 2 (cB (aC (eV 0) (aN)) lenD)) (seqS (sSet 3 (eCut (eV 0) (oN) (oS (b2 (b2 (eV 2) (cB (aC (b2 (eV 1) (eC (.str "out")) eqD) (aN)) intD) addD) (eC (.int 2)) fdivWD)))) (seqS (sSet 4 (eCut (eV 0) (oS (cB (aC (eV 3) (aN)) lenD)) (oN))) (seqS (sSet 5 (eV 3)) (seqS (sSet 6 (eV 4)) (seqS (ifS (b1 (b2 (eV 1) (eC (.str "in")) eqD) boolO) (seqS (sSet 5 (eV 4)) (sSet 6 (eV 3))) (sNx)) (seqS (sNew 7 (nL (aN))) (seqS (sFor (cB (aC (cB (aC (eV 5) (aN)) lenD) (aN)) rg1) (tgN 8) (seqS (appS 7 (b2 (eV 5) (eV 8) ixD)) (ifS (b1 (b2 (eV 8) (cB (aC (eV 6) (aN)) lenD) ltD) boolO) (appS 7 (b2 (eV 6) (eV 8) ixD)) (sNx)))) (sRet (eV 7)))))))))
def F__law_faro : List D → Rs D := callS 9 g__law_faro
/-- _law_under(cards, d, u): cards, d, u, made, left, turn, dealt, card, k -/
def g__law_under : Env → Out := seqS (sSet 3 (eL (nL (aN)))) (seqS (sSet 4 (eL (cB (aC (eV 0) (aN)) lstD))) (seqS (sFor (cB (aC (b2 (cB (aC (eV 0) (aN)) lenD) (eC (.int 1)) addD) (aN)) rg1) (tgN 5) (seqS (sSet 6 (eCut (eV 4) (oN) (oS (eV 1)))) (seqS (sSet 4 (eCut (eV 4) (oS (eV 1)) (oN))) (seqS (sFor (b1 (eV 6) lstO) (tgN 7) (sSet 3 (b2 (eL (nL (aC (eV 7) (aN)))) (eV 3) addD))) (seqS (ifS (b1 (b2 (cB (aC (eV 4) (aN)) lenD) (eC (.int 0)) eqD) boolO) (sBk) (sNx)) (seqS (sSet 8 (b2 (cB (aC (eV 2) (aN)) intD) (cB (aC (eV 4) (aN)) lenD) modD)) (sSet 4 (b2 (eCut (eV 4) (oS (eV 8)) (oN)) (eCut (eV 4) (oN) (oS (eV 8))) addD)))))))) (sRet (eV 3))))
def F__law_under : List D → Rs D := callS 9 g__law_under
/-- _law_shuffled(cards, shuffle): cards, shuffle, n, word, k, made, left, turn, piles, pile, at -/
def g__law_shuffled : Env → Out := seqS (sSet 2 (cB (aC (eV 0) (aN)) lenD)) (seqS (sSet 3 (b2 (eV 1) (eC (.int 0)) ixD)) (seqS (ifS (b1 (b2 (eV 3) (eC (.str "cut")) eqD) boolO) (seqS (sSet 4 (eC (.int 0))) (seqS (ifS (b1 (b2 (eV 2) (eC (.int 0)) gtD) boolO) (sSet 4 (b2 (cB (aC (b2 (eV 1) (eC (.int 1)) ixD) (aN)) intD) (eV 2) modD)) (sNx)) (sRet (b2 (eCut (eV 0) (oS (eV 4)) (oN)) (eCut (eV 0) (oN) (oS (eV 4))) addD)))) (sNx)) (seqS (ifS (b1 (b2 (eV 3) (eC (.str "over")) eqD) boolO) (sRet (eL (nLc [4] (cB (aC (eV 2) (aN)) rg1) (tgN 4) (tsYes) (b2 (eV 0) (b2 (b2 (eV 2) (eC (.int 1)) subD) (eV 4) subD) ixD)))) (sNx)) (seqS (ifS (b1 (b2 (eV 3) (eC (.str "run")) eqD) boolO) (sRet (cF 2 (aC (eV 0) (aC (b2 (eV 1) (eC (.int 1)) ixD) (aN))) F__law_run)) (sNx)) (seqS (ifS (b1 (b2 (eV 3) (eL (nL (aC (eC (.str "out")) (aC (eC (.str "in")) (aN))))) (inD false)) boolO) (sRet (cF 2 (aC (eV 0) (aC (eV 3) (aN))) F__law_faro)) (sNx)) (seqS (ifS (b1 (b2 (eV 3) (eC (.str "monge")) eqD) boolO) (seqS (sSet 5 (eL (nL (aN)))) (seqS (sFor (cB (aC (eV 2) (aN)) rg1) (tgN 4) (ifS (b1 (b2 (b2 (cB (aC (eV 4) (aN)) intD) (eC (.int 2)) modD) (eC (.int 1)) eqD) boolO) (sSet 5 (b2 (eL (nL (aC (b2 (eV 0) (eV 4) ixD) (aN)))) (eV 5) addD)) (sSet 5 (b2 (eV 5) (eL (nL (aC (b2 (eV 0) (eV 4) ixD) (aN)))) addD)))) (sRet (eV 5)))) (sNx)) (seqS (ifS (b1 (b2 (eV 3) (eC (.str "milk")) eqD) boolO) (seqS (sSet 5 (eL (nL (aN)))) (seqS (sSet 6 (eL (cB (aC (eV 0) (aN)) lstD))) (seqS (sFor (cB (aC (eV 2) (aN)) rg1) (tgN 7) (ifS (b1 (b2 (cB (aC (eV 6) (aN)) lenD) (eC (.int 1)) gtD) boolO) (seqS (sSet 5 (b2 (eL (nL (aC (b2 (eV 6) (eC (.int 0)) ixD) (aC (b2 (eV 6) (b2 (cB (aC (eV 6) (aN)) lenD) (eC (.int 1)) subD) ixD) (aN))))) (eV 5) addD)) (sSet 6 (eCut (eV 6) (oS (eC (.int 1))) (oS (b2 (cB (aC (eV 6) (aN)) lenD) (eC (.int 1)) subD))))) (sNx))) (sRet (b2 (eV 6) (eV 5) addD))))) (sNx)) (seqS (ifS (b1 (b2 (eV 3) (eC (.str "deal")) eqD) boolO) (seqS (sNew 8 (nLc [4] (cB (aC (b2 (eV 1) (eC (.int 1)) ixD) (aN)) rg1) (tgN 4) (tsYes) (eL (nL (aN))))) (seqS (sFor (cB (aC (eV 2) (aN)) rg1) (tgN 4) (seqS (sSet 10 (b2 (cB (aC (eV 4) (aN)) intD) (b2 (eV 1) (eC (.int 1)) ixD) modD)) (putS 8 (b2 (eL (nL (aC (b2 (eV 0) (eV 4) ixD) (aN)))) (b2 (eV 8) (eV 10) ixD) addD) (eV 10)))) (seqS (sSet 5 (eL (nL (aN)))) (seqS (sFor (b1 (b2 (eV 1) (eC (.int 2)) ixD) lstO) (tgN 9) (sSet 5 (b2 (eV 5) (b2 (eV 8) (eV 9) ixD) addD))) (sRet (eV 5)))))) (sNx)) (sRet (cF 3 (aC (eV 0) (aC (b2 (eV 1) (eC (.int 1)) ixD) (aC (b2 (eV 1) (eC (.int 2)) ixD) (aN)))) F__law_under))))))))))
def F__law_shuffled : List D → Rs D := callS 11 g__law_shuffled
/-- _law_some_shuffle(cell, n): cell, n, d, words, word -/
def g__law_some_shuffle : Env → Out := seqS (sSet 2 (cF 2 (aC (eV 0) (aC (eL (nL (aC (eC (.int 9)) (aC (b2 (b2 (eC (.int 2)) (eV 1) mulD) (eC (.int 3)) addD) (aC (eC (.int 5)) (aC (b2 (eV 1) (eC (.int 1)) addD) (aC (eC (.int 4)) (aC (eC (.int 4)) (aN))))))))) (aN))) F__law_draw)) (seqS (sSet 3 (eL (nL (aC (eC (.str "cut")) (aC (eC (.str "out")) (aC (eC (.str "in")) (aC (eC (.str "monge")) (aC (eC (.str "milk")) (aC (eC (.str "deal")) (aC (eC (.str "run")) (aC (eC (.str "over")) (aC (eC (.str "under")) (aN))))))))))))) (seqS (sSet 4 (b2 (eV 3) (b2 (eV 2) (eC (.int 0)) ixD) ixD)) (seqS (ifS (b1 (b2 (eV 4) (eC (.str "cut")) eqD) boolO) (sRet (eT (aC (eC (.str "cut")) (aC (b2 (b2 (b2 (eV 2) (eC (.int 1)) ixD) (eV 1) subD) (eC (.int 1)) subD) (aN))))) (sNx)) (seqS (ifS (b1 (b2 (eV 4) (eC (.str "deal")) eqD) boolO) (sRet (eT (aC (eC (.str "deal")) (aC (b2 (eC (.int 1)) (b2 (eV 2) (eC (.int 2)) ixD) addD) (aC (cF 2 (aC (b2 (eV 0) (eC (.int 7)) fdivWD) (aC (b2 (eC (.int 1)) (b2 (eV 2) (eC (.int 2)) ixD) addD) (aN))) F__law_of_size) (aN)))))) (sNx)) (seqS (ifS (b1 (b2 (eV 4) (eC (.str "run")) eqD) boolO) (sRet (eT (aC (eC (.str "run")) (aC (b2 (eV 2) (eC (.int 3)) ixD) (aN))))) (sNx)) (seqS (ifS (b1 (b2 (eV 4) (eC (.str "under")) eqD) boolO) (sRet (eT (aC (eC (.str "under")) (aC (b2 (eC (.int 1)) (b2 (eV 2) (eC (.int 4)) ixD) addD) (aC (b2 (eV 2) (eC (.int 5)) ixD) (aN)))))) (sNx)) (sRet (eT (aC (eV 4) (aN))))))))))
def F__law_some_shuffle : List D → Rs D := callS 5 g__law_some_shuffle
/-- _law_shuffle_order(shuffle, n): shuffle, n, k -/
def g__law_shuffle_order : Env → Out := sRet (cF 2 (aC (eL (nLc [2] (cB (aC (eV 1) (aN)) rg1) (tgN 2) (tsYes) (eV 2))) (aC (eV 0) (aN))) F__law_shuffled)
def F__law_shuffle_order : List D → Rs D := callS 3 g__law_shuffle_order
end DL
set_option Elab.async false
set_option linter.all false
set_option maxRecDepth 100000
set_option maxHeartbeats 8000000

/-! What the defs of the text compute, on data (printed by gen.py). -/
namespace DL
open PySem PySem.Spec PyProof.Rows L2


/-- is_letter(character): character -/
def g_is_letter : Env → Out := sRet (eCh leSD leSD (eC (.str "a")) (eV 0) (eC (.str "z")))
def F_is_letter : List D → Rs D := callS 1 g_is_letter
/-- is_any_letter(character): character -/
def g_is_any_letter : Env → Out := sRet (eOr (cF 1 (aC (eV 0) (aN)) F_is_letter) (eCh leSD leSD (eC (.str "A")) (eV 0) (eC (.str "Z"))))
def F_is_any_letter : List D → Rs D := callS 1 g_is_any_letter
/-- is_digit(character): character -/
def g_is_digit : Env → Out := sRet (eCh leSD leSD (eC (.str "0")) (eV 0) (eC (.str "9")))
def F_is_digit : List D → Rs D := callS 1 g_is_digit
/-- is_name(text): text, character -/
def g_is_name : Env → Out := seqS (ifS (tOr' (b1 (b2 (cB (aC (eV 0) (aN)) lenD) (eC (.int 1)) ltD) boolO) (tOr' (b1 (b2 (cB (aC (eV 0) (aN)) lenD) (eC (.int 12)) gtD) boolO) (tNot' (b1 (cF 1 (aC (b2 (eV 0) (eC (.int 0)) ixD) (aN)) F_is_letter) truD)))) (sRet (eC (.bool false))) (sNx)) (seqS (sFor (b1 (eV 0) sgnO) (tgN 1) (ifS (tAnd' (tNot' (b1 (cF 1 (aC (eV 1) (aN)) F_is_letter) truD)) (tNot' (b1 (cF 1 (aC (eV 1) (aN)) F_is_digit) truD))) (sRet (eC (.bool false))) (sNx))) (sRet (eC (.bool true))))
def F_is_name : List D → Rs D := callS 2 g_is_name
/-- run_of_digits(line, start): line, start, end -/
def g_run_of_digits : Env → Out := seqS (sSet 2 (eV 1)) (seqS (sWh (tAnd' (b1 (b2 (eV 2) (cB (aC (eV 0) (aN)) lenD) ltD) boolO) (b1 (cF 1 (aC (b2 (eV 0) (eV 2) ixD) (aN)) F_is_digit) truD)) (sAug 2 (eC (.int 1)) addA)) (sRet (eV 2)))
def F_run_of_digits : List D → Rs D := callS 3 g_run_of_digits
/-- run_of_letters(line, start): line, start, end -/
def g_run_of_letters : Env → Out := seqS (sSet 2 (eV 1)) (seqS (sWh (tAnd' (b1 (b2 (eV 2) (cB (aC (eV 0) (aN)) lenD) ltD) boolO) (tOr' (b1 (cF 1 (aC (b2 (eV 0) (eV 2) ixD) (aN)) F_is_letter) truD) (b1 (cF 1 (aC (b2 (eV 0) (eV 2) ixD) (aN)) F_is_digit) truD))) (sAug 2 (eC (.int 1)) addA)) (sRet (eV 2)))
def F_run_of_letters : List D → Rs D := callS 3 g_run_of_letters
/-- number_of_digits(digits): digits, value -/
def g_number_of_digits : Env → Out := seqS (ifS (tOr' (b1 (b2 (cB (aC (eV 0) (aN)) lenD) (eC (.int 7)) gtD) boolO) (tAnd' (b1 (b2 (cB (aC (eV 0) (aN)) lenD) (eC (.int 1)) gtD) boolO) (b1 (b2 (b2 (eV 0) (eC (.int 0)) ixD) (eC (.str "0")) eqD) boolO))) (sRet (eC .none)) (sNx)) (seqS (sSet 1 (cB (aC (eV 0) (aN)) intT)) (seqS (ifS (b1 (b2 (eV 1) (eC (.int 1000000)) gtD) boolO) (sRet (eC .none)) (sNx)) (sRet (eV 1))))
def F_number_of_digits : List D → Rs D := callS 2 g_number_of_digits
/-- token_at(line, at): line, at, character, end, value -/
def g_token_at : Env → Out := seqS (sSet 2 (b2 (eV 0) (eV 1) ixD)) (seqS (ifS (b1 (cF 1 (aC (eV 2) (aN)) F_is_digit) truD) (seqS (sSet 3 (cF 2 (aC (eV 0) (aC (eV 1) (aN))) F_run_of_digits)) (seqS (sSet 4 (cF 1 (aC (eCut (eV 0) (oS (eV 1)) (oS (eV 3))) (aN)) F_number_of_digits)) (seqS (ifS (tOr' (b1 (b1 (eV 4) fun d => some (.bool (isNoneD d))) boolO) (tAnd' (b1 (b2 (eV 3) (cB (aC (eV 0) (aN)) lenD) ltD) boolO) (b1 (cF 1 (aC (b2 (eV 0) (eV 3) ixD) (aN)) F_is_any_letter) truD))) (sRet (eC .none)) (sNx)) (sRet (eT (aC (eC (.str "number")) (aC (eV 4) (aC (eV 3) (aN))))))))) (sNx)) (seqS (ifS (b1 (cF 1 (aC (eV 2) (aN)) F_is_letter) truD) (seqS (sSet 3 (cF 2 (aC (eV 0) (aC (eV 1) (aN))) F_run_of_letters)) (sRet (eT (aC (eC (.str "word")) (aC (eCut (eV 0) (oS (eV 1)) (oS (eV 3))) (aC (eV 3) (aN))))))) (sNx)) (seqS (ifS (b1 (b2 (eV 2) (eC (.str "{}();,:=+-*<")) (inSD false)) boolO) (sRet (eT (aC (eC (.str "sign")) (aC (eV 2) (aC (b2 (eV 1) (eC (.int 1)) addD) (aN)))))) (sNx)) (sRet (eC .none)))))
def F_token_at : List D → Rs D := callS 5 g_token_at
/-- scan_line(line, number, found): line, number, found, at, token -/
def gW_scan_line : Env → List D → OutL := seqL (fun γ ls => liftO 2 γ ((sSet 3 (eC (.int 0))) γ) ls) (seqL (fun γ ls => whileL (b1 (b2 (eV 3) (cB (aC (eV 0) (aN)) lenD) ltD) boolO) (seqL (fun γ ls => liftO 2 γ ((ifS (b1 (b2 (b2 (eV 0) (eV 3) ixD) (eC (.str "#")) eqD) boolO) (sRet (eC (.int 0))) (sNx)) γ) ls) (ifL (b1 (b2 (b2 (eV 0) (eV 3) ixD) (eC (.str " ")) eqD) boolO) (fun γ ls => liftO 2 γ ((sAug 3 (eC (.int 1)) addA) γ) ls) (seqL (fun γ ls => liftO 2 γ ((sSet 4 (cF 2 (aC (eV 0) (aC (eV 3) (aN))) F_token_at)) γ) ls) (seqL (fun γ ls => liftO 2 γ ((ifS (b1 (b1 (eV 4) fun d => some (.bool (isNoneD d))) boolO) (sRet (b2 (eV 3) (eC (.int 1)) addD)) (sNx)) γ) ls) (seqL (appL 2 (eT (aC (b2 (eV 4) (eC (.int 0)) ixD) (aC (b2 (eV 4) (eC (.int 1)) ixD) (aC (eV 1) (aC (b2 (eV 3) (eC (.int 1)) addD) (aN))))))) (fun γ ls => liftO 2 γ ((sSet 3 (b2 (eV 4) (eC (.int 2)) ixD)) γ) ls)))))) FUEL γ ls) (fun γ ls => liftO 2 γ ((sRet (eC (.int 0))) γ) ls))
def FW_scan_line : Addr → List D → List D → Rs (D × List D) := callW 5 gW_scan_line
/-- scan(text): text, lines, found, number, line, column -/
noncomputable def g_scan : Env → Out := seqS (sSet 1 (eL (eM1 (eV 0) (eC (.str "\n")) splitN))) (seqS (sNew 2 (nL (aN))) (seqS (sSet 3 (eC (.int 0))) (seqS (sFor (b1 (eV 1) lstO) (tgN 4) (seqS (sAug 3 (eC (.int 1)) addA) (seqS (sSetW 5 2 3 (awC (eV 4) (awC (eV 3) (awN 2))) FW_scan_line) (ifS (b1 (b2 (eV 5) (eC (.int 0)) gtD) boolO) (seqS (appS 2 (eT (aC (eC (.str "fault")) (aC (eC (.str "")) (aC (eV 3) (aC (eV 5) (aN))))))) (sRet (eV 2))) (sNx))))) (seqS (appS 2 (eT (aC (eC (.str "end")) (aC (eC (.str "")) (aC (eV 3) (aC (b2 (cB (aC (b2 (eV 1) (b1 (eC (.int 1)) negD) ixD) (aN)) lenD) (eC (.int 1)) addD) (aN))))))) (sRet (eV 2))))))
noncomputable def F_scan : List D → Rs D := callS 6 g_scan
/-- tokens_of(text): text, found, last -/
noncomputable def g_tokens_of : Env → Out := seqS (sSet 1 (cF 1 (aC (eV 0) (aN)) F_scan)) (seqS (sSet 2 (b2 (eV 1) (b1 (eC (.int 1)) negD) ixD)) (seqS (ifS (b1 (b2 (b2 (eV 2) (eC (.int 0)) ixD) (eC (.str "fault")) eqD) boolO) (sRa ("BadText" : Str) [("line" : Str), ("column" : Str), ("reason" : Str)] ("BadText" : Str) (aC (b2 (eV 2) (eC (.int 2)) ixD) (aC (b2 (eV 2) (eC (.int 3)) ixD) (aC (eC (.str "token")) (aN))))) (sNx)) (sRet (eV 1))))
noncomputable def F_tokens_of : List D → Rs D := callS 3 g_tokens_of
end DL
set_option Elab.async false
set_option linter.all false
set_option maxRecDepth 100000
/-! Plain tools: how the functions on data are computed. -/
namespace DL
open PySem PySem.Spec PyProof.Rows L2

/-! ### the machine -/
@[simp] theorem gE_zero (d : D) (γ : Env) : gE (some d :: γ) 0 = .ok d := Eq.trans (Eq.refl _) rfl
@[simp] theorem gE_succ (x : Option D) (γ : Env) (i : Nat) : gE (x :: γ) (i + 1) = gE γ i := Eq.trans (Eq.refl _) rfl
@[simp] theorem lsE_zero (ds : List D) (γ : Env) : lsE (some (.list ds) :: γ) 0 = .ok ds := Eq.trans (Eq.refl _) rfl
@[simp] theorem lsE_succ (x : Option D) (γ : Env) (i : Nat) : lsE (x :: γ) (i + 1) = lsE γ i := Eq.trans (Eq.refl _) rfl
@[simp] theorem nArgs_1 (F : List D → Rs D) (a : D) : nArgs 1 F [a] = F [a] := Eq.trans (Eq.refl _) rfl
@[simp] theorem nArgs_2 (F : List D → Rs D) (a b : D) : nArgs 2 F [a, b] = F [a, b] := Eq.trans (Eq.refl _) rfl
@[simp] theorem nArgs_3 (F : List D → Rs D) (a b c : D) : nArgs 3 F [a, b, c] = F [a, b, c] := Eq.trans (Eq.refl _) rfl
@[simp] theorem nArgs_4 (F : List D → Rs D) (a b c d : D) : nArgs 4 F [a, b, c, d] = F [a, b, c, d] := Eq.trans (Eq.refl _) rfl
@[simp] theorem nArgs_5 (F : List D → Rs D) (a b c d e : D) : nArgs 5 F [a, b, c, d, e] = F [a, b, c, d, e] := Eq.trans (Eq.refl _) rfl
def thn (o : Out) (g : Env → Out) : Out := match o with
  | .nx γ => g γ
  | o => o
@[simp] theorem seqS_thn (f g : Env → Out) (γ : Env) : seqS f g γ = thn (f γ) g := by
  unfold seqS thn
  cases f γ <;> rfl
@[simp] theorem thn_nx (γ : Env) (g : Env → Out) : thn (.nx γ) g = g γ := Eq.trans (Eq.refl _) rfl
@[simp] theorem thn_rt (d : D) (g : Env → Out) : thn (.rt d) g = .rt d := Eq.trans (Eq.refl _) rfl
@[simp] theorem thn_bk (γ : Env) (g : Env → Out) : thn (.bk γ) g = .bk γ := Eq.trans (Eq.refl _) rfl
@[simp] theorem thn_ct (γ : Env) (g : Env → Out) : thn (.ct γ) g = .ct γ := Eq.trans (Eq.refl _) rfl
@[simp] theorem thn_er (c : Str) (fs : List (Str × D)) (γ : Env) (g : Env → Out) : thn (.er c fs γ) g = .er c fs γ := Eq.trans (Eq.refl _) rfl
theorem thn_ite (c : Prop) [Decidable c] (a b : Out) (g : Env → Out) : thn (if c then a else b) g = if c then thn a g else thn b g := by split <;> rfl
def outR : Out → Rs D
  | .rt d => .ok d
  | .nx _ => .ok .none
  | .er c fs _ => .er c fs
  | _ => .no
theorem callS_eq (m : Nat) (f : Env → Out) (ds : List D) : callS m f ds = outR (f (ds.map some ++ List.replicate (m - ds.length) none)) := Eq.trans (Eq.refl _) rfl
@[simp] theorem outR_rt (d : D) : outR (.rt d) = .ok d := Eq.trans (Eq.refl _) rfl
@[simp] theorem outR_nx (γ : Env) : outR (.nx γ) = .ok .none := Eq.trans (Eq.refl _) rfl
@[simp] theorem outR_er (c : Str) (fs : List (Str × D)) (γ : Env) : outR (.er c fs γ) = .er c fs := Eq.trans (Eq.refl _) rfl
theorem outR_ite (c : Prop) [Decidable c] (a b : Out) : outR (if c then a else b) = if c then outR a else outR b := by split <;> rfl
@[simp] theorem ifS_eq (t : Env → Rs Bool) (f g : Env → Out) (γ : Env) : ifS t f g γ = liftS (t γ) γ fun b => if b = true then f γ else g γ := Eq.trans (Eq.refl _) rfl
@[simp] theorem andR_ok (b : Bool) (y : Rs Bool) : andR (.ok b) y = if b = true then y else .ok false := Eq.trans (Eq.refl _) rfl
@[simp] theorem orR_ok (b : Bool) (y : Rs Bool) : orR (.ok b) y = if b = true then .ok true else y := Eq.trans (Eq.refl _) rfl
@[simp] theorem andVR_ok (b : Bool) (y : Rs D) : andVR (.ok (.bool b)) y = if b = true then y else .ok (.bool false) := by cases b <;> rfl
@[simp] theorem orVR_ok (b : Bool) (y : Rs D) : orVR (.ok (.bool b)) y = if b = true then .ok (.bool true) else y := by cases b <;> rfl
@[simp] theorem appS_eq (i : Nat) (fe : Env → Rs D) (γ : Env) : appS i fe γ = liftS ((lsE γ i).bind fun ds => (fe γ).bind fun d => oR (if ds.length < LIM then some (ds ++ [d]) else none)) γ fun es => .nx (γ.set i (some (.list es))) := Eq.trans (Eq.refl _) rfl
@[simp] theorem putS_eq (i : Nat) (fe fi : Env → Rs D) (γ : Env) : putS i fe fi γ = liftS ((fe γ).bind fun d => (lsE γ i).bind fun ds => (fi γ).bind fun k => oR (putL ds d k)) γ fun es => .nx (γ.set i (some (.list es))) := Eq.trans (Eq.refl _) rfl
@[simp] theorem tgN_eq (i : Nat) (d : D) (γ : Env) : tgN i d γ = some (γ.set i (some d)) := Eq.trans (Eq.refl _) rfl
@[simp] theorem tgT_eq (u : List D → Env → Option Env) (n : Nat) (ds : List D) (γ : Env) : tgT n u (.tuple ds) γ = if ds.length = n then u ds γ else none := Eq.trans (Eq.refl _) rfl
@[simp] theorem tgCons_eq (t : D → Env → Option Env) (u : List D → Env → Option Env) (d : D) (r : List D) (γ : Env) : tgCons t u (d :: r) γ = (t d γ).bind (u r) := Eq.trans (Eq.refl _) rfl
@[simp] theorem tgNil_eq (γ : Env) : tgNil [] γ = some γ := Eq.trans (Eq.refl _) rfl
@[simp] theorem tsYes_eq (γ : Env) : tsYes γ = .ok true := Eq.trans (Eq.refl _) rfl

/-! ### operations on ints -/
@[simp] theorem iiD_int (C : Int → Int → Bool) (F : Int → Int → D) (i j : Int) : iiD C F (.int i) (.int j) = if C i j = true then some (F i j) else none := Eq.trans (Eq.refl _) rfl
@[simp] theorem ltD_int (i j : Int) : ltD (.int i) (.int j) = some (.bool (decide (i < j))) := Eq.trans (Eq.refl _) rfl
@[simp] theorem leD_int (i j : Int) : leD (.int i) (.int j) = some (.bool (decide (i ≤ j))) := Eq.trans (Eq.refl _) rfl
@[simp] theorem gtD_int (i j : Int) : gtD (.int i) (.int j) = some (.bool (decide (j < i))) := Eq.trans (Eq.refl _) rfl
@[simp] theorem geD_int (i j : Int) : geD (.int i) (.int j) = some (.bool (decide (j ≤ i))) := Eq.trans (Eq.refl _) rfl
@[simp] theorem boolO_bool (b : Bool) : boolO (.bool b) = some b := Eq.trans (Eq.refl _) rfl
@[simp] theorem truD_bool (b : Bool) : truD (.bool b) = some b := Eq.trans (Eq.refl _) rfl
@[simp] theorem addD_int (i j : Int) : addD (.int i) (.int j) = some (.int (i + j)) := Eq.trans (Eq.refl _) rfl
@[simp] theorem addA_int (i j : Int) : addA (.int i) (.int j) = some (.int (i + j)) := Eq.trans (Eq.refl _) rfl
@[simp] theorem subD_int (i j : Int) : subD (.int i) (.int j) = some (.int (i - j)) := Eq.trans (Eq.refl _) rfl
@[simp] theorem negD_int (i : Int) : negD (.int i) = some (.int (-i)) := Eq.trans (Eq.refl _) rfl
@[simp] theorem intD_int (i : Int) : intD [.int i] = some (.int i) := Eq.trans (Eq.refl _) rfl
@[simp] theorem absD_int (i : Int) : absD [.int i] = some (.int i.natAbs) := by
  show some (PyData.int (if i < 0 then -i else i)) = _
  have : (if i < 0 then -i else i) = (i.natAbs : Int) := by split <;> omega
  rw [this]
@[simp] theorem intO_int (i : Int) : intO (.int i) = some (some i) := Eq.trans (Eq.refl _) rfl
theorem mulD_int {i j : Int} (h : (-18446744073709551616 < i ∧ i < 18446744073709551616) ∨ (-18446744073709551616 < j ∧ j < 18446744073709551616)) : mulD (.int i) (.int j) = some (.int (i * j)) := by
  show (if mulOk i j = true then some (PyData.int (i * j)) else none) = _
  rw [if_pos (show mulOk i j = true from decide_eq_true h)]
theorem modD_int {i j : Int} (h : 0 < j) : modD (.int i) (.int j) = some (.int (i % j)) := by
  show (if decide (0 < j) = true then _ else _) = _
  rw [if_pos (decide_eq_true h)]
theorem fdivD_int {i j : Int} (h : 0 < j) (h2 : j < 18446744073709551616) : fdivD (.int i) (.int j) = some (.int (i / j)) := by
  show (if decide (0 < j ∧ j < 18446744073709551616) = true then _ else _) = _
  rw [if_pos (decide_eq_true ⟨h, h2⟩)]
@[simp] theorem isB_bool (neg i j : Bool) : isB neg (.bool i) (.bool j) = some (.bool (neg != decide (i = j))) := Eq.trans (Eq.refl _) rfl
@[simp] theorem notD_bool (b : Bool) : notD (.bool b) = some (.bool (!b)) := Eq.trans (Eq.refl _) rfl

/-! ### lists -/
@[simp] abbrev iL (ns : List Int) : D := .list (ns.map PyData.int)
@[simp] abbrev nI (n : Nat) : D := .int (n : Int)
@[simp] abbrev oL (ns : List Nat) : D := .list (ns.map nI)
@[simp] theorem lenD_list (ds : List D) : lenD [.list ds] = some (.int (ds.length : Nat)) := Eq.trans (Eq.refl _) rfl
@[simp] theorem lenD_tuple (ds : List D) : lenD [.tuple ds] = some (.int (ds.length : Nat)) := Eq.trans (Eq.refl _) rfl
@[simp] theorem lenD_rol (ds : List D) : lenD [rolD ds] = some (.int (ds.length : Nat)) := Eq.trans (Eq.refl _) rfl
@[simp] theorem lstO_list (ds : List D) : lstO (.list ds) = some ds := Eq.trans (Eq.refl _) rfl
@[simp] theorem lstD_list (ds : List D) : lstD [.list ds] = some ds := Eq.trans (Eq.refl _) rfl
@[simp] theorem plO_list (ds : List D) : plO (.list ds) = some ds := Eq.trans (Eq.refl _) rfl
theorem szL_ok {ds : List D} (h : ds.length ≤ LIM) : szL ds = some ds := if_pos h
theorem szT_ok {ds : List D} (h : ds.length ≤ LIM) : szT ds = some (.tuple ds) := if_pos h
@[simp] theorem szL_0 : szL [] = some [] := Eq.trans (Eq.refl _) rfl
@[simp] theorem szL_1 (a : D) : szL [a] = some [a] := Eq.trans (Eq.refl _) rfl
@[simp] theorem szL_2 (a b : D) : szL [a, b] = some [a, b] := Eq.trans (Eq.refl _) rfl
@[simp] theorem szL_3 (a b c : D) : szL [a, b, c] = some [a, b, c] := Eq.trans (Eq.refl _) rfl
@[simp] theorem szL_4 (a b c d : D) : szL [a, b, c, d] = some [a, b, c, d] := Eq.trans (Eq.refl _) rfl
@[simp] theorem szT_1 (a : D) : szT [a] = some (.tuple [a]) := Eq.trans (Eq.refl _) rfl
@[simp] theorem szT_2 (a b : D) : szT [a, b] = some (.tuple [a, b]) := Eq.trans (Eq.refl _) rfl
@[simp] theorem szT_3 (a b c : D) : szT [a, b, c] = some (.tuple [a, b, c]) := Eq.trans (Eq.refl _) rfl
theorem ixN_nat {n : Nat} {i : Nat} (h : i < n) : L2.ixN n (i : Int) = some i := by
  unfold L2.ixN
  simp [h]
theorem ixD_list {ds : List D} {i : Nat} (h : i < ds.length) : ixD (.list ds) (.int (i : Int)) = some ds[i] := by
  show L2.atI ds (i : Int) = _
  unfold L2.atI
  rw [ixN_nat h]
  simp [h]
theorem ixD_rol {ds : List D} {i : Nat} (h : i < ds.length) : ixD (rolD ds) (.int (i : Int)) = some ds[i] := by
  show L2.atI ds (i : Int) = _
  unfold L2.atI
  rw [ixN_nat h]
  simp [h]
theorem ixD_tuple {ds : List D} {i : Nat} (h : i < ds.length) : ixD (.tuple ds) (.int (i : Int)) = some ds[i] := by
  show L2.atI ds (i : Int) = _
  unfold L2.atI
  rw [ixN_nat h]
  simp [h]
theorem ixD_int {ns : List Int} {i : Int} (h0 : 0 ≤ i) (h : i < ns.length) : ixD (iL ns) (.int i) = some (.int (ns.getD i.toNat 0)) := by
  obtain ⟨n, rfl⟩ := Int.eq_ofNat_of_zero_le h0
  have hn : n < ns.length := by omega
  have := ixD_list (ds := ns.map PyData.int) (i := n) (by simpa using hn)
  rw [this]
  simp [hn]
theorem ixD_intN {ns : List Int} {i : Nat} (h : i < ns.length) : ixD (iL ns) (nI i) = some (.int (ns.getD i 0)) := by
  rw [ixD_int (by omega) (by omega)]
  simp
theorem ixD_nat {ns : List Nat} {i : Nat} (h : i < ns.length) : ixD (oL ns) (nI i) = some (nI (ns.getD i 0)) := by
  have := ixD_list (ds := ns.map nI) (i := i) (by simpa using h)
  rw [this]
  simp [h]
theorem putL_nat {ds : List D} {d : D} {i : Nat} (h : i < ds.length) : putL ds d (nI i) = some (ds.set i d) := by
  show (L2.ixN ds.length (i : Int)).map _ = _
  rw [ixN_nat h]
  rfl
theorem rgD_nat (n : Nat) : rgD 0 (n : Int) = (List.range n).map nI := by
  unfold rgD
  simp
theorem rgD_from (a : Nat) (n : Nat) : rgD (a : Int) (n : Int) = (List.range' a (n - a)).map nI := by
  unfold rgD
  rw [show ((n : Int) - (a : Int)).toNat = n - a by omega]
  rw [List.range'_eq_map_range, List.map_map]
  apply List.map_congr_left
  intro k _
  simp [nI]
theorem rg1_nat {n : Nat} (h : n ≤ 1000000000000000000) : rg1 [.int (n : Int)] = some ((List.range n).map nI) := by
  show (if -RLIM ≤ (n : Int) ∧ (n : Int) ≤ RLIM then some (rgD 0 n) else none) = _
  rw [if_pos (by unfold RLIM; omega), rgD_nat]
theorem rg1_int {n : Int} (h0 : 0 ≤ n) (h : n ≤ 1000000000000000000) : rg1 [.int n] = some ((List.range n.toNat).map nI) := by
  obtain ⟨m, rfl⟩ := Int.eq_ofNat_of_zero_le h0
  rw [rg1_nat (by omega)]
  simp
theorem rg2_nat {a n : Nat} (h0 : a ≤ 1000000000000000000) (h : n ≤ 1000000000000000000) : rg2 [.int (a : Int), .int (n : Int)] = some ((List.range' a (n - a)).map nI) := by
  show (if (-RLIM ≤ (a : Int) ∧ (a : Int) ≤ RLIM) ∧ (-RLIM ≤ (n : Int) ∧ (n : Int) ≤ RLIM) then some (rgD a n) else none) = _
  rw [if_pos (by unfold RLIM; omega), rgD_from]
theorem rgL1_nat {n : Nat} (h : n ≤ LIM) : rgL1 (.int (n : Int)) = some ((List.range n).map nI) := by
  show (if _ then _ else _) = _
  rw [if_pos (by omega), rgD_nat]
theorem repD_nat {ds : List D} {k : Nat} (h : k ≤ LIM) (h2 : ds.length * k ≤ LIM) : repD ds (.int (k : Int)) = some (List.replicate k ds).flatten := by
  show (if _ then _ else _) = _
  rw [if_pos (by simp only [Int.toNat_natCast]; omega)]
  simp
theorem rep_one {α : Type} (a : α) (k : Nat) : (List.replicate k [a]).flatten = List.replicate k a := by
  induction k with
  | zero => rfl
  | succ k ih => rw [List.replicate_succ, List.replicate_succ, List.flatten_cons, ih]; rfl
theorem intsO_nat (ns : List Nat) : intsO (ns.map nI) = some (ns.map fun n : Nat => (n : Int)) := by
  induction ns with
  | nil => rfl
  | cons a r ih => simp [intsO, ih]
@[simp] theorem srtD_int (ns : List Int) : srtD [iL ns] = some ((srtI ns).map PyData.int) := by
  unfold srtD
  simp only [intsO_map]
  rfl
theorem addD_list {a b : List D} (h : a.length + b.length ≤ LIM) : addD (.list a) (.list b) = some (.list (a ++ b)) := if_pos h
/-! slices -/
theorem cutD_to (ds : List D) (k : Nat) : cutD ds none (some (k : Int)) = ds.take k := by
  unfold cutD
  rw [HT.sIx_nat, HT.sIx_none]
  simp
theorem cutD_from (ds : List D) (k : Nat) : cutD ds (some (k : Int)) none = ds.drop k := by
  unfold cutD
  rw [HT.sIx_nat, HT.sIx_none]
  by_cases h : k ≤ ds.length
  · rw [Nat.min_eq_left h, List.take_of_length_le (by simp)]
  · rw [Nat.min_eq_right (by omega), List.drop_eq_nil_of_le (Nat.le_refl _), List.drop_eq_nil_of_le (by omega)]
    simp
@[simp] theorem cutAD_list (ds : List D) (a b : Option Int) : cutAD a b (.list ds) = some (.list (cutD ds a b)) := Eq.trans (Eq.refl _) rfl
@[simp] theorem cutLD_list (ds : List D) (a b : Option Int) : cutLD a b (.list ds) = some (cutD ds a b) := Eq.trans (Eq.refl _) rfl

/-! ### shapes and equality -/
def Ok (k : Nat) (d : D) : Prop := d.canLay0 = true ∧ d.depth ≤ k
theorem Ok.shaped {d : D} (h : Ok 64 d) : SeqAt.shaped d = true := by
  unfold SeqAt.shaped
  rw [h.1, decide_eq_true h.2]
  rfl
theorem Ok.mono {j k : Nat} {d : D} (h : Ok j d) (hk : j ≤ k) : Ok k d := ⟨h.1, Nat.le_trans h.2 hk⟩
theorem ok_int (k : Nat) (i : Int) : Ok k (.int i) := ⟨rfl, Nat.zero_le _⟩
theorem ok_none (k : Nat) : Ok k .none := ⟨rfl, Nat.zero_le _⟩
theorem ok_bool (k : Nat) (b : Bool) : Ok k (.bool b) := ⟨rfl, Nat.zero_le _⟩
theorem ok_str (k : Nat) {x : Str} (h : PyData.strOk x = true := by decide +kernel) : Ok k (.str x) := ⟨h, Nat.zero_le _⟩
theorem ok_all {k : Nat} : ∀ {ds : List D}, (∀ d ∈ ds, Ok k d) → PyData.canLayAll0 ds = true ∧ PyData.depthAll ds ≤ k
  | [], _ => ⟨rfl, Nat.zero_le _⟩
  | d :: ds, h => by
    obtain ⟨h1, h2⟩ := h d List.mem_cons_self
    obtain ⟨h3, h4⟩ := ok_all fun z hz => h z (List.mem_cons_of_mem _ hz)
    refine ⟨?_, ?_⟩
    · unfold PyData.canLayAll0; rw [h1, h3]; rfl
    · unfold PyData.depthAll; omega
theorem ok_list {k : Nat} {ds : List D} (h : ∀ d ∈ ds, Ok k d) : Ok (k + 1) (.list ds) := by
  obtain ⟨h1, h2⟩ := ok_all h
  refine ⟨by unfold PyData.canLay0; exact h1, ?_⟩
  unfold PyData.depth; omega
theorem ok_tuple {k : Nat} {ds : List D} (h : ∀ d ∈ ds, Ok k d) : Ok (k + 1) (.tuple ds) := by
  obtain ⟨h1, h2⟩ := ok_all h
  refine ⟨by unfold PyData.canLay0; exact h1, ?_⟩
  unfold PyData.depth; omega
theorem ok_map {α : Type} {k : Nat} {f : α → D} {xs : List α} (h : ∀ x ∈ xs, Ok k (f x)) : Ok (k + 1) (.list (xs.map f)) := ok_list fun d hd => by
  obtain ⟨x, hx, rfl⟩ := List.mem_map.mp hd
  exact h x hx
theorem ok_ints (k : Nat) (ns : List Int) : Ok (k + 1) (iL ns) := ok_map fun _ _ => ok_int _ _
theorem ok_nats (k : Nat) (ns : List Nat) : Ok (k + 1) (oL ns) := ok_map fun _ _ => ok_int _ _
theorem ok_pair {k : Nat} {a b : D} (h1 : Ok k a) (h2 : Ok k b) : Ok (k + 1) (.tuple [a, b]) := ok_tuple fun d hd => by
  simp only [List.mem_cons, List.not_mem_nil, or_false] at hd
  rcases hd with rfl | rfl
  · exact h1
  · exact h2
theorem ok_value {k : Nat} {d : D} (h : Ok k d) : Ok (k + 1) (.tuple [.str "value", d]) := ok_pair (ok_str _) h
theorem ok_all_iff {k : Nat} : ∀ {ds : List D}, (PyData.canLayAll0 ds = true ∧ PyData.depthAll ds ≤ k) ↔ ∀ d ∈ ds, Ok k d
  | [] => ⟨fun _ _ h => (List.not_mem_nil h).elim, fun _ => ⟨rfl, Nat.zero_le _⟩⟩
  | d :: ds => by
    refine ⟨fun ⟨h1, h2⟩ => ?_, fun h => ok_all h⟩
    unfold PyData.canLayAll0 at h1
    unfold PyData.depthAll at h2
    obtain ⟨h3, h4⟩ := Bool.and_eq_true_iff.mp h1
    intro z hz
    rcases List.mem_cons.mp hz with e | e
    · subst e; exact ⟨h3, by omega⟩
    · exact ok_all_iff.mp ⟨h4, by omega⟩ z e
@[simp] theorem ok_list_iff {k : Nat} {ds : List D} : Ok (k + 1) (.list ds) ↔ ∀ d ∈ ds, Ok k d := by
  rw [← ok_all_iff]
  unfold Ok PyData.canLay0 PyData.depth
  exact and_congr Iff.rfl (by omega)
@[simp] theorem ok_tuple_iff {k : Nat} {ds : List D} : Ok (k + 1) (.tuple ds) ↔ ∀ d ∈ ds, Ok k d := by
  rw [← ok_all_iff]
  unfold Ok PyData.canLay0 PyData.depth
  exact and_congr Iff.rfl (by omega)
@[simp] theorem ok_int_iff (k : Nat) (i : Int) : Ok k (.int i) ↔ True := iff_true_intro (ok_int k i)
@[simp] theorem ok_none_iff (k : Nat) : Ok k .none ↔ True := iff_true_intro (ok_none k)
@[simp] theorem ok_bool_iff (k : Nat) (b : Bool) : Ok k (.bool b) ↔ True := iff_true_intro (ok_bool k b)
theorem ok_str_iff (k : Nat) (x : Str) : Ok k (.str x) ↔ PyData.strOk x = true := ⟨fun h => h.1, fun h => ⟨h, Nat.zero_le _⟩⟩
@[simp] theorem ok_value_iff (k : Nat) : Ok k (.str "value") ↔ True := iff_true_intro (ok_str k)
@[simp] theorem ok_order_iff (k : Nat) : Ok k (.str "order") ↔ True := iff_true_intro (ok_str k)
@[simp] theorem ok_unequal_iff (k : Nat) : Ok k (.str "unequal") ↔ True := iff_true_intro (ok_str k)
@[simp] theorem ok_range_iff (k : Nat) : Ok k (.str "range") ↔ True := iff_true_intro (ok_str k)
@[simp] theorem ok_other_iff (k : Nat) : Ok k (.str "other") ↔ True := iff_true_intro (ok_str k)
@[simp] theorem ok_bad_iff (k : Nat) : Ok k (.str "bad") ↔ True := iff_true_intro (ok_str k)
@[simp] theorem ok_stack_iff (k : Nat) : Ok k (.str "stack") ↔ True := iff_true_intro (ok_str k)
@[simp] theorem ok_large_iff (k : Nat) : Ok k (.str "large") ↔ True := iff_true_intro (ok_str k)
@[simp] theorem ok_optint (k : Nat) (x : Option Int) : Ok k ((x.map PyData.int).getD .none) ↔ True := iff_true_intro (by cases x <;> simp)
@[simp] theorem ok_nats_iff (k : Nat) (l : List Nat) : Ok (k + 1) (.list (l.map nI)) ↔ True := iff_true_intro (ok_nats k l)
@[simp] theorem ok_ints_iff (k : Nat) (l : List Int) : Ok (k + 1) (.list (l.map PyData.int)) ↔ True := iff_true_intro (ok_ints k l)
@[simp] theorem ok_natss_iff (k : Nat) (l : List (List Nat)) : Ok (k + 1 + 1) (.list (l.map oL)) ↔ True := iff_true_intro (ok_map fun _ _ => ok_nats _ _)
@[simp] theorem ok_intss_iff (k : Nat) (l : List (List Int)) : Ok (k + 1 + 1) (.list (l.map iL)) ↔ True := iff_true_intro (ok_map fun _ _ => ok_ints _ _)
mutual
theorem eqv_self : ∀ {d : D}, d.canLay0 = true → PyData.eqv d d = true
  | .none, _ => rfl
  | .bool b, _ => by simp [PyData.eqv]
  | .int i, _ => by simp [PyData.eqv]
  | .str x, _ => by simp [PyData.eqv]
  | .list xs, h => by
    unfold PyData.eqv
    exact eqv_selfs (ds := xs) (by unfold PyData.canLay0 at h; exact h)
  | .tuple xs, h => by
    unfold PyData.eqv
    exact eqv_selfs (ds := xs) (by unfold PyData.canLay0 at h; exact h)
  | .dict _, h => by cases h
theorem eqv_selfs : ∀ {ds : List D}, PyData.canLayAll0 ds = true → PyData.eqvAll ds ds = true
  | [], _ => rfl
  | d :: ds, h => by
    unfold PyData.canLayAll0 at h
    obtain ⟨h1, h2⟩ := Bool.and_eq_true_iff.mp h
    unfold PyData.eqvAll
    rw [eqv_self h1, eqv_selfs h2]
    rfl
end
theorem eqD_eqv {d e : D} (h1 : Ok 64 d) (h2 : Ok 64 e) : eqD d e = some (.bool (PyData.eqv d e)) := if_pos ⟨h1.shaped, h2.shaped⟩
theorem neD_eqv {d e : D} (h1 : Ok 64 d) (h2 : Ok 64 e) : neD d e = some (.bool (!PyData.eqv d e)) := if_pos ⟨h1.shaped, h2.shaped⟩
theorem eqD_self {d : D} (h : Ok 64 d) : eqD d d = some (.bool true) := by rw [eqD_eqv h h, eqv_self h.1]
theorem neD_self {d : D} (h : Ok 64 d) : neD d d = some (.bool false) := by rw [neD_eqv h h, eqv_self h.1]; rfl
@[simp] theorem eqD_same {d : D} (h : Ok 64 d) : eqD d d = some (.bool true) := eqD_self h
@[simp] theorem neD_same {d : D} (h : Ok 64 d) : neD d d = some (.bool false) := neD_self h
@[simp] theorem eqD_int (i j : Int) : eqD (.int i) (.int j) = some (.bool (decide (i = j))) := by
  rw [eqD_eqv (ok_int _ _) (ok_int _ _)]
  simp [PyData.eqv]
  rfl
@[simp] theorem neD_int (i j : Int) : neD (.int i) (.int j) = some (.bool (!decide (i = j))) := by
  rw [neD_eqv (ok_int _ _) (ok_int _ _)]
  simp [PyData.eqv]
  rfl
theorem eqv_ints : ∀ (a b : List Int), PyData.eqvAll (a.map PyData.int) (b.map PyData.int) = decide (a = b)
  | [], [] => rfl
  | [], _ :: _ => rfl
  | _ :: _, [] => rfl
  | x :: a, y :: b => by
    show (PyData.eqv (.int x) (.int y) && PyData.eqvAll (a.map PyData.int) (b.map PyData.int)) = _
    rw [eqv_ints a b]
    simp [PyData.eqv]
    by_cases h : x = y <;> by_cases h2 : a = b <;> simp [h, h2]
theorem eqD_ints (a b : List Int) : eqD (iL a) (iL b) = some (.bool (decide (a = b))) := by
  rw [eqD_eqv (ok_ints _ _) (ok_ints _ _)]
  unfold PyData.eqv
  rw [eqv_ints]
theorem neD_ints (a b : List Int) : neD (iL a) (iL b) = some (.bool (!decide (a = b))) := by
  rw [neD_eqv (ok_ints _ _) (ok_ints _ _)]
  unfold PyData.eqv
  rw [eqv_ints]

/-! ### loops -/
/-- what a turn comes to: P for the next turn, Q where the loop ends here -/
def turn (P : Env → Prop) (Q : Out → Prop) : Out → Prop
  | .nx γ => P γ
  | .ct γ => P γ
  | .bk γ => Q (.nx γ)
  | .rt d => Q (.rt d)
  | .er c fs γ => Q (.er c fs γ)
  | .no => False
@[simp] theorem turn_nx (P : Env → Prop) (Q : Out → Prop) (γ : Env) : turn P Q (.nx γ) = P γ := Eq.trans (Eq.refl _) rfl
@[simp] theorem turn_ct (P : Env → Prop) (Q : Out → Prop) (γ : Env) : turn P Q (.ct γ) = P γ := Eq.trans (Eq.refl _) rfl
@[simp] theorem turn_bk (P : Env → Prop) (Q : Out → Prop) (γ : Env) : turn P Q (.bk γ) = Q (.nx γ) := Eq.trans (Eq.refl _) rfl
@[simp] theorem turn_rt (P : Env → Prop) (Q : Out → Prop) (d : D) : turn P Q (.rt d) = Q (.rt d) := Eq.trans (Eq.refl _) rfl
@[simp] theorem turn_er (P : Env → Prop) (Q : Out → Prop) (c : Str) (fs : List (Str × D)) (γ : Env) : turn P Q (.er c fs γ) = Q (.er c fs γ) := Eq.trans (Eq.refl _) rfl
theorem forS_turns {α : Type} {t : D → Env → Option Env} {b : Env → Out} {Q : Out → Prop} (g : α → D) (P : Nat → Env → Prop) (xs : List α) {γ : Env} (h0 : P 0 γ)
    (step : ∀ (i : Nat) (hi : i < xs.length) γ, P i γ → ∃ γ1, t (g xs[i]) γ = some γ1 ∧ turn (P (i + 1)) Q (b γ1)) (fin : ∀ γ, P xs.length γ → Q (.nx γ)) : Q (forS t b (xs.map g) γ) := by
  have key : ∀ (ys : List α) (i : Nat) (γ : Env), i + ys.length = xs.length → (∀ j (hj : j < ys.length), xs[i + j]? = some ys[j]) → P i γ → Q (forS t b (ys.map g) γ) := by
    intro ys
    induction ys with
    | nil =>
      intro i γ hl _ hp
      have : i = xs.length := by simpa using hl
      subst this
      exact fin γ hp
    | cons y ys ih =>
      intro i γ hl hx hp
      have hi : i < xs.length := by rw [List.length_cons] at hl; omega
      have hy : xs[i] = y := by
        have := hx 0 (by simp)
        simp only [Nat.add_zero, List.getElem_cons_zero] at this
        exact (List.getElem?_eq_some_iff.mp this).2
      obtain ⟨γ1, h1, h2⟩ := step i hi γ hp
      rw [hy] at h1
      have next : ∀ γ2, P (i + 1) γ2 → Q (forS t b (ys.map g) γ2) := fun γ2 hp2 => ih (i + 1) γ2 (by rw [List.length_cons] at hl; omega) (fun j hj => by
        have := hx (j + 1) (by simp; omega)
        rw [show i + 1 + j = i + (j + 1) by omega, this]
        simp) hp2
      rw [List.map_cons]
      unfold forS
      rw [h1]
      dsimp only
      cases hb : b γ1 with
      | nx γ2 => rw [hb] at h2; exact next γ2 h2
      | ct γ2 => rw [hb] at h2; exact next γ2 h2
      | bk γ2 => rw [hb] at h2; exact h2
      | rt d => rw [hb] at h2; exact h2
      | er c fs γ2 => rw [hb] at h2; exact h2
      | no => rw [hb] at h2; exact False.elim h2
  exact key xs 0 γ (by omega) (fun j hj => by rw [Nat.zero_add]; exact List.getElem?_eq_getElem hj) h0
/-- a loop that runs to its end -/
theorem forS_all {α : Type} {t : D → Env → Option Env} {b : Env → Out} (g : α → D) (P : Nat → Env → Prop) (xs : List α) {γ : Env} (h0 : P 0 γ)
    (step : ∀ (i : Nat) (hi : i < xs.length) γ, P i γ → ∃ γ1 γ2, t (g xs[i]) γ = some γ1 ∧ (b γ1 = .nx γ2 ∨ b γ1 = .ct γ2) ∧ P (i + 1) γ2) : ∃ γ', forS t b (xs.map g) γ = .nx γ' ∧ P xs.length γ' :=
  forS_turns (Q := fun o => ∃ γ', o = .nx γ' ∧ P xs.length γ') g P xs h0 (fun i hi γ hp => by
    obtain ⟨γ1, γ2, h1, h2, h3⟩ := step i hi γ hp
    refine ⟨γ1, h1, ?_⟩
    rcases h2 with h2 | h2 <;> rw [h2] <;> exact h3) fun γ hp => ⟨γ, rfl, hp⟩
theorem for_all {α : Type} {t : D → Env → Option Env} {b : Env → Out} {g : α → D} {xs : List α} {γ : Env} {o : Out} (hf : forS t b (xs.map g) γ = o) (P : Nat → Env → Prop) (h0 : P 0 γ)
    (step : ∀ (i : Nat) (hi : i < xs.length) γ, P i γ → ∃ γ1, t (g xs[i]) γ = some γ1 ∧ turn (P (i + 1)) (fun _ => False) (b γ1)) : ∃ γ', o = .nx γ' ∧ P xs.length γ' := by
  rw [← hf]
  refine forS_turns (Q := fun o => ∃ γ', o = .nx γ' ∧ P xs.length γ') g P xs h0 (fun i hi γ hp => ?_) fun γ hp => ⟨γ, rfl, hp⟩
  obtain ⟨γ1, h1, h2⟩ := step i hi γ hp
  refine ⟨γ1, h1, ?_⟩
  cases hb : b γ1 <;> rw [hb] at h2 <;> first | exact h2 | exact False.elim h2
/-- for k in range(n) -/
theorem for_rg {n : Nat} {t : D → Env → Option Env} {b : Env → Out} {γ : Env} {o : Out} (hf : forS t b ((List.range n).map nI) γ = o) (P : Nat → Env → Prop) (h0 : P 0 γ)
    (step : ∀ (i : Nat) (hi : i < n) γ, P i γ → ∃ γ1, t (nI i) γ = some γ1 ∧ turn (P (i + 1)) (fun _ => False) (b γ1)) : ∃ γ', o = .nx γ' ∧ P n γ' := by
  have := for_all hf P h0 (fun i hi γ hp => by
    rw [List.getElem_range]
    exact step i (by simpa using hi) γ hp)
  rwa [List.length_range] at this
theorem for_turns {α : Type} {t : D → Env → Option Env} {b : Env → Out} {g : α → D} {xs : List α} {γ : Env} {o : Out} (hf : forS t b (xs.map g) γ = o) (P : Nat → Env → Prop) (Q : Out → Prop) (h0 : P 0 γ)
    (step : ∀ (i : Nat) (hi : i < xs.length) γ, P i γ → ∃ γ1, t (g xs[i]) γ = some γ1 ∧ turn (P (i + 1)) Q (b γ1)) (fin : ∀ γ, P xs.length γ → Q (.nx γ)) : Q o := hf ▸ forS_turns g P xs h0 step fin
theorem for_rgT {n : Nat} {t : D → Env → Option Env} {b : Env → Out} {γ : Env} {o : Out} (hf : forS t b ((List.range n).map nI) γ = o) (P : Nat → Env → Prop) (Q : Out → Prop) (h0 : P 0 γ)
    (step : ∀ (i : Nat) (hi : i < n) γ, P i γ → ∃ γ1, t (nI i) γ = some γ1 ∧ turn (P (i + 1)) Q (b γ1)) (fin : ∀ γ, P n γ → Q (.nx γ)) : Q o :=
  for_turns hf P Q h0 (fun i hi γ hp => by
    rw [List.getElem_range]
    exact step i (by simpa using hi) γ hp) (by rwa [List.length_range])
theorem whileS_turns {t : Env → Rs Bool} {b : Env → Out} {Q : Out → Prop} (P : Nat → Env → Prop) (N : Nat) (hN : N ≤ 1000000000000000000000000000000) {γ : Env} (h0 : P 0 γ) (hb : ∀ k γ, P k γ → k ≤ N)
    (step : ∀ k γ, P k γ → (t γ = .ok true ∧ turn (P (k + 1)) Q (b γ)) ∨ (t γ = .ok false ∧ Q (.nx γ))) : Q (whileS t b FUEL γ) := by
  have key : ∀ (f k : Nat) (γ : Env), N < k + f → P k γ → Q (whileS t b f γ) := by
    intro f
    induction f with
    | zero => intro k γ hk hp; have := hb k γ hp; omega
    | succ f ih =>
      intro k γ hk hp
      unfold whileS
      rcases step k γ hp with ⟨h1, h2⟩ | ⟨h1, h2⟩
      · rw [h1, liftS_ok, if_pos rfl]
        cases hb2 : b γ with
        | nx γ2 => rw [hb2] at h2; exact ih (k + 1) γ2 (by omega) h2
        | ct γ2 => rw [hb2] at h2; exact ih (k + 1) γ2 (by omega) h2
        | bk γ2 => rw [hb2] at h2; exact h2
        | rt d => rw [hb2] at h2; exact h2
        | er c fs γ2 => rw [hb2] at h2; exact h2
        | no => rw [hb2] at h2; exact False.elim h2
      · rw [h1, liftS_ok, if_neg (by decide)]
        exact h2
  refine key FUEL 0 γ ?_ h0
  have : (1000000000000000000000000000000 : Nat) < FUEL := by unfold FUEL; decide
  omega
theorem while_turns {t : Env → Rs Bool} {b : Env → Out} {γ : Env} {o : Out} (hf : whileS t b FUEL γ = o) (P : Nat → Env → Prop) (Q : Out → Prop) (N : Nat) (hN : N ≤ 1000000000000000000000000000000) (h0 : P 0 γ) (hb : ∀ k γ, P k γ → k ≤ N)
    (step : ∀ k γ, P k γ → (t γ = .ok true ∧ turn (P (k + 1)) Q (b γ)) ∨ (t γ = .ok false ∧ Q (.nx γ))) : Q o := hf ▸ whileS_turns P N hN h0 hb step
/-! ### comprehensions -/
theorem compL_eq {α : Type} {t : D → Env → Option Env} {c : Env → Rs Bool} {f : Env → Rs D} {γ : Env} (g : α → D) (p : α → Bool) (y : α → D) : ∀ {xs : List α}, (∀ x ∈ xs, ∃ γ1, t (g x) γ = some γ1 ∧ c γ1 = .ok (p x) ∧ (p x = true → f γ1 = .ok (y x))) →
    compL t c f (xs.map g) γ = .ok ((xs.filter p).map y)
  | [], _ => rfl
  | x :: xs, h => by
    obtain ⟨γ1, h1, h2, h3⟩ := h x List.mem_cons_self
    have ih := compL_eq g p y fun z hz => h z (List.mem_cons_of_mem _ hz)
    rw [List.map_cons]
    unfold compL
    rw [h1]
    dsimp only
    rw [h2, noEr_ok, Rs.bind_ok]
    cases hp : p x with
    | false =>
      rw [if_neg (by decide), ih, List.filter_cons_of_neg (by rw [hp]; decide)]
    | true =>
      rw [if_pos rfl, h3 hp, noEr_ok, Rs.bind_ok, ih, List.filter_cons_of_pos hp]
      rfl
theorem compR_eq {α : Type} {vs : List Nat} {t : D → Env → Option Env} {c : Env → Rs Bool} {f : Env → Rs D} {γ : Env} {xs : List α} (g : α → D) (p : α → Bool) (y : α → D) (hl : xs.length ≤ LIM)
    (h : ∀ x ∈ xs, ∃ γ1, t (g x) (wipeE γ vs) = some γ1 ∧ c γ1 = .ok (p x) ∧ (p x = true → f γ1 = .ok (y x))) : compR vs t c f (xs.map g) γ = .ok ((xs.filter p).map y) := by
  unfold compR
  rw [compL_eq g p y h, Rs.bind_ok, szL_ok]
  · rfl
  · rw [List.length_map]; exact Nat.le_trans (List.length_filter_le _ _) hl
theorem compR_map {α : Type} {vs : List Nat} {t : D → Env → Option Env} {f : Env → Rs D} {γ : Env} {xs : List α} (g : α → D) (y : α → D) (hl : xs.length ≤ LIM)
    (h : ∀ x ∈ xs, ∃ γ1, t (g x) (wipeE γ vs) = some γ1 ∧ f γ1 = .ok (y x)) : compR vs t tsYes f (xs.map g) γ = .ok (xs.map y) := by
  have := compR_eq (c := tsYes) g (fun _ => true) y hl fun x hx => by
    obtain ⟨γ1, h1, h2⟩ := h x hx
    exact ⟨γ1, h1, rfl, fun _ => h2⟩
  rw [this, List.filter_eq_self.mpr fun _ _ => rfl]
/-- [y for x in xs] -/
theorem comp1 {α : Type} {i : Nat} {f : Env → Rs D} {γ : Env} {xs : List α} {g : α → D} (y : α → D) (hl : xs.length ≤ LIM) (h : ∀ x ∈ xs, f ((γ.set i none).set i (some (g x))) = .ok (y x)) : compR [i] (tgN i) tsYes f (xs.map g) γ = .ok (xs.map y) :=
  compR_map g y hl fun x hx => ⟨_, rfl, h x hx⟩
/-- [y for x in xs if p] -/
theorem comp1F {α : Type} {i : Nat} {c : Env → Rs Bool} {f : Env → Rs D} {γ : Env} {xs : List α} {g : α → D} (p : α → Bool) (y : α → D) (hl : xs.length ≤ LIM) (hc : ∀ x ∈ xs, c ((γ.set i none).set i (some (g x))) = .ok (p x)) (h : ∀ x ∈ xs, p x = true → f ((γ.set i none).set i (some (g x))) = .ok (y x)) :
    compR [i] (tgN i) c f (xs.map g) γ = .ok ((xs.filter p).map y) := compR_eq g p y hl fun x hx => ⟨_, rfl, hc x hx, h x hx⟩
@[simp] theorem wipeE_nil (γ : Env) : wipeE γ [] = γ := Eq.trans (Eq.refl _) rfl
@[simp] theorem wipeE_cons (γ : Env) (v : Nat) (vs : List Nat) : wipeE γ (v :: vs) = (wipeE γ vs).set v none := Eq.trans (Eq.refl _) rfl

/-! ### try -/
theorem tryS_ok {errs : List Str} {g : Env → Out} {l : List (Str × Option Nat × HFn)} {γ : Env} {d : D} (h : g γ = .rt d) : tryS errs g l γ = .rt d := by
  unfold tryS; rw [h]
theorem tryS_er {errs : List Str} {g : Env → Out} {l : List (Str × Option Nat × HFn)} {γ γ' : Env} {c : Str} {fs : List (Str × D)} (h : g γ = .er c fs γ') : tryS errs g l γ = if errs.contains c = true then catchS c fs γ' l else .no := by
  unfold tryS; rw [h]
end DL
set_option Elab.async false
set_option linter.all false
set_option maxRecDepth 100000
/-! Plain: the helpers of the laws, orders. -/
namespace DL
open PySem PySem.Spec PyProof.Rows L2

theorem F_check_between_eq (v a b : Int) : F_check_between [.int v, .int a, .int b] = if v < a ∨ v > b then .er "OutOfRange" [("value", .int v), ("label", .str "OutOfRange")] else .ok .none := by
  simp [F_check_between, callS_eq, g_check_between, flD]
  by_cases h : v < a <;> by_cases h2 : b < v <;> simp [h, h2]
abbrev cell (ns : List Int) (k : Nat) : Int := ns.getD k 0
@[simp] theorem F__law_cell_eq (ns : List Int) (k : Int) (h : 0 ≤ k) : F__law_cell [rolD (ns.map PyData.int), .int k] = .ok (.int (cell ns k.toNat)) := by
  obtain ⟨n, rfl⟩ := Int.eq_ofNat_of_zero_le h
  simp [F__law_cell, callS_eq, g__law_cell]
  by_cases h : n < ns.length
  · rw [if_pos h, ixD_rol (by simpa using h)]
    simp [h]
  · simp [h]

/-! ### draws -/
theorem getD_snoc_lt {α : Type} {l : List α} {a d : α} {k : Nat} (h : k < l.length) : (l ++ [a]).getD k d = l.getD k d := by
  simp [List.getD_eq_getElem?_getD, List.getElem?_append_left h]
theorem getD_snoc_eq {α : Type} {l : List α} {a d : α} : (l ++ [a]).getD l.length d = a := by simp [List.getD_eq_getElem?_getD]
/-- row i of the draws lies below limit i -/
def Below (ds ls : List Int) : Prop := ds.length = ls.length ∧ ∀ k, k < ls.length → 0 ≤ ds.getD k 0 ∧ ds.getD k 0 < ls.getD k 0
def PDraw (c : Int) (ls : List Int) (i : Nat) (γ : Env) : Prop := ∃ (row : List Int) (rest : Int) (great : Bool) (ks mixed : Option D), γ = [some (.int c), some (iL ls), some (iL row), some (.int rest), some (.bool great), ks, mixed] ∧ row.length = i ∧ ∀ k, k < i → 0 ≤ row.getD k 0 ∧ row.getD k 0 < ls.getD k 0
theorem below_snoc {row ls : List Int} {x : Int} (h : ∀ k, k < row.length → 0 ≤ row.getD k 0 ∧ row.getD k 0 < ls.getD k 0) (h0 : 0 ≤ x) (h1 : x < ls.getD row.length 0) : ∀ k, k < row.length + 1 → 0 ≤ (row ++ [x]).getD k 0 ∧ (row ++ [x]).getD k 0 < ls.getD k 0 := fun k hk => by
  by_cases e : k = row.length
  · subst e
    rw [getD_snoc_eq]
    exact ⟨h0, h1⟩
  · rw [getD_snoc_lt (by omega)]
    exact h k (by omega)
theorem F__law_draw_eq (c : Int) (ls : List Int) (hl : ∀ l ∈ ls, 0 < l ∧ l < 18446744073709551616) (hn : ls.length ≤ LIM) : ∃ ds : List Int, F__law_draw [.int c, iL ls] = .ok (iL ds) ∧ Below ds ls := by
  simp [F__law_draw, callS_eq, g__law_draw]
  rw [rg1_nat (by unfold LIM at hn; omega)]
  simp
  generalize hf : forS _ _ _ _ = o
  obtain ⟨γ', rfl, row, rest, great, ks, mixed, rfl, h2, h3⟩ := for_rg hf (PDraw c ls) ⟨[], _, _, _, _, rfl, rfl, fun k h => absurd h (Nat.not_lt_zero _)⟩ (by
    rintro i hi γ ⟨row, rest, great, ks, mixed, rfl, rfl, h3⟩
    obtain ⟨p1, p2⟩ := hl (ls.getD row.length 0) (by rw [List.getD_eq_getElem?_getD, List.getElem?_eq_getElem hi]; exact List.getElem_mem _)
    have hL : row.length < LIM := by omega
    have hix := ixD_intN hi
    have hb := fun x => below_snoc (x := x) h3
    generalize hm : ls.getD row.length 0 = m at hix p1 p2 hb
    refine ⟨_, rfl, ?_⟩
    have fin : ∀ x : Int, PDraw c ls (row.length + 1) [some (.int c), some (iL ls), some (iL (row ++ [x % m])), some (.int rest), some (.bool great), some (nI row.length), some (.int x)] := fun x =>
      ⟨_, _, _, _, _, rfl, by simp, hb _ (Int.emod_nonneg _ (by omega)) (Int.emod_lt_of_pos _ p1)⟩
    have fin2 : PDraw c ls (row.length + 1) [some (.int c), some (iL ls), some (iL (row ++ [rest % m])), some (.int (rest / m)), some (.bool great), some (nI row.length), mixed] :=
      ⟨_, _, _, _, _, rfl, by simp, hb _ (Int.emod_nonneg _ (by omega)) (Int.emod_lt_of_pos _ p1)⟩
    cases great with
    | false =>
      simp [hix, modD_int p1, fdivD_int p1 p2, mulD_int, modD_int, hL]
      simpa using fin _
    | true =>
      by_cases hc : m ≤ rest
      · simp [hix, modD_int p1, fdivD_int p1 p2, mulD_int, modD_int, hL, hc]
        simpa using fin2
      · simp [hix, modD_int p1, fdivD_int p1 p2, mulD_int, modD_int, hL, hc]
        simpa using fin _)
  simp
  exact ⟨row, rfl, h2, h3⟩

/-! ### drawn orders -/
theorem perm_step {o l : List Nat} {n p : Nat} (h : (o ++ l).Perm (List.range n)) (hp : p < l.length) : (o ++ [l.getD p 0] ++ (l.take p ++ l.drop (p + 1))).Perm (List.range n) := by
  refine .trans ?_ h
  have e : l = l.take p ++ (l.getD p 0 :: l.drop (p + 1)) := by
    have : l.getD p 0 = l[p] := by simp [List.getD_eq_getElem?_getD, hp]
    rw [this, List.getElem_cons_drop, List.take_append_drop]
  rw [List.append_assoc]
  refine List.Perm.append_left o ?_
  conv => rhs; rw [e]
  rw [List.singleton_append]
  exact List.perm_middle.symm
def PSize (c : Int) (n : Nat) (i : Nat) (γ : Env) : Prop := ∃ (l o : List Nat) (x y : Option D), γ = [some (.int c), some (nI n), some (oL l), some (oL o), x, y] ∧ (o ++ l).Perm (List.range n) ∧ o.length = i
theorem draw_sizes (n : Nat) : ((List.range n).map fun k : Nat => PyData.int ((n : Int) - k)) = ((List.range n).map fun k : Nat => (n : Int) - k).map PyData.int := by rw [List.map_map]; rfl
theorem sizes_ok {n : Nat} (hn : n ≤ LIM) : ∀ l ∈ (List.range n).map fun k : Nat => (n : Int) - k, 0 < l ∧ l < 18446744073709551616 := by
  intro l hl
  obtain ⟨k, hk, rfl⟩ := List.mem_map.mp hl
  rw [List.mem_range] at hk
  unfold LIM at hn
  omega
theorem F__law_of_size_eq (c : Int) (n : Nat) (hn : n ≤ LIM) : ∃ o : List Nat, F__law_of_size [.int c, nI n] = .ok (oL o) ∧ o.Perm (List.range n) := by
  have hr := rg1_nat (n := n) (by unfold LIM at hn; omega)
  simp [F__law_of_size, callS_eq, g__law_of_size, hr]
  rw [comp1 nI (by simpa using hn) (fun x hx => by simp)]
  simp [hr]
  rw [comp1 (fun k : Nat => PyData.int ((n : Int) - k)) (by simpa using hn) (fun x hx => by simp)]
  simp
  obtain ⟨ds, h1, h2, h3⟩ := F__law_draw_eq c _ (sizes_ok hn) (by simpa using hn)
  rw [draw_sizes, h1]
  simp
  generalize hf : forS _ _ _ _ = o
  obtain ⟨γ', rfl, l, o, x, y, rfl, h4, h5⟩ := for_all hf (PSize c n) ⟨List.range n, [], _, _, rfl, by simp, rfl⟩ (by
    rintro i hi γ ⟨l, o, x, y, rfl, h4, h5⟩
    have hlen := h4.length_eq
    rw [List.length_append, List.length_range] at hlen
    have hi2 : i < n := by rw [h2] at hi; simpa using hi
    obtain ⟨b1, b2⟩ := h3 i (by simpa using hi2)
    have e1 : ds.getD i 0 = ds[i] := by simp [List.getD_eq_getElem?_getD, hi]
    have e2 : ((List.range n).map fun k : Nat => (n : Int) - k).getD i 0 = (n : Int) - i := by simp [List.getD_eq_getElem?_getD, hi2]
    rw [e1] at b1 b2
    rw [e2] at b2
    obtain ⟨p, hp⟩ := Int.eq_ofNat_of_zero_le b1
    rw [hp] at b2 ⊢
    have hpl : p < l.length := by omega
    have hix := ixD_nat hpl
    have st := perm_step h4 hpl
    generalize hv : l.getD p 0 = v at hix st
    have hoL : o.length < LIM := by unfold LIM at hn ⊢; omega
    have c1 : cutD (l.map nI) none (some (p : Int)) = (l.take p).map nI := by rw [cutD_to, List.map_take]
    have c2 : cutD (l.map nI) (some ((p : Int) + 1)) none = (l.drop (p + 1)).map nI := by
      have := cutD_from (l.map nI) (p + 1)
      rw [List.map_drop]
      simpa using this
    have ca : addD (.list ((l.take p).map nI)) (.list ((l.drop (p + 1)).map nI)) = some (oL (l.take p ++ l.drop (p + 1))) := by
      rw [addD_list (by simp; omega), ← List.map_append]
    refine ⟨_, rfl, ?_⟩
    simp at c1 c2 ca hix ⊢
    simp [hix, hoL, c1, c2, ca]
    exact ⟨l.take p ++ l.drop (p + 1), o ++ [v], some (nI p), y, by simp, by simpa using st, by simp [h5]⟩)
  simp
  refine ⟨o, rfl, ?_⟩
  have hlen := h4.length_eq
  rw [List.length_append, List.length_range] at hlen
  have hl : l = [] := by
    have h6 : ds.length = n := by simpa using h2
    apply List.eq_nil_of_length_eq_zero
    omega
  rw [hl, List.append_nil] at h4
  exact h4

def POrd (c m : Int) (d : D) (n : Nat) (i : Nat) (γ : Env) : Prop := ∃ (l o : List Nat) (x y : Option D), γ = [some (.int c), some (.int m), some d, some (oL l), some (oL o), x, y] ∧ (o ++ l).Perm (List.range n) ∧ o.length = i
theorem F__law_order_eq (c : Int) (m : Nat) (hm : m < LIM) : ∃ (o : List Nat) (n : Nat), n ≤ m ∧ F__law_order [.int c, nI m] = .ok (oL o) ∧ o.Perm (List.range n) := by
  obtain ⟨d0, g1, g2, g3⟩ := F__law_draw_eq c [(m : Int) + 1] (by
    intro l hl
    simp at hl
    subst hl
    unfold LIM at hm
    omega) (by simp [LIM])
  match d0, g2 with
  | [x], _ =>
  obtain ⟨x1, x2⟩ := g3 0 (by simp)
  simp at x1 x2
  obtain ⟨n, rfl⟩ := Int.eq_ofNat_of_zero_le x1
  have hn : n ≤ LIM := by omega
  have hr := rg1_nat (n := n) (by unfold LIM at hn; omega)
  have hix0 : ixD (.list [.int (n : Int)]) (.int 0) = some (.int n) := ixD_list (ds := [.int (n : Int)]) (i := 0) (by simp)
  have hdv : fdivD (.int c) (.int 5) = some (.int (c / 5)) := fdivD_int (by omega) (by omega)
  simp at hr g1
  obtain ⟨ds, h1, h2, h3⟩ := F__law_draw_eq (c / 5 + 3) _ (sizes_ok hn) (by simpa using hn)
  have h6 : ds.length = n := by simpa using h2
  rw [iL, ← draw_sizes] at h1
  simp [F__law_order, callS_eq, g__law_order, g1, hix0, hr]
  rw [comp1 nI (by simpa using hn) (fun x hx => by simp)]
  simp [hix0, hr, hdv]
  rw [comp1 (fun k : Nat => PyData.int ((n : Int) - k)) (by simpa using hn) (fun x hx => by simp [hix0])]
  simp [h1]
  generalize hf : forS _ _ _ _ = o
  obtain ⟨γ', rfl, l, o, x, y, rfl, h4, h5⟩ := for_all hf (POrd c m (.list [.int (n : Int)]) n) ⟨List.range n, [], _, _, rfl, by simp, rfl⟩ (by
    rintro i hi γ ⟨l, o, x, y, rfl, h4, h5⟩
    have hlen := h4.length_eq
    rw [List.length_append, List.length_range] at hlen
    have hi2 : i < n := by rw [h2] at hi; simpa using hi
    obtain ⟨b1, b2⟩ := h3 i (by simpa using hi2)
    have e1 : ds.getD i 0 = ds[i] := by simp [List.getD_eq_getElem?_getD, hi]
    have e2 : ((List.range n).map fun k : Nat => (n : Int) - k).getD i 0 = (n : Int) - i := by simp [List.getD_eq_getElem?_getD, hi2]
    rw [e1] at b1 b2
    rw [e2] at b2
    obtain ⟨p, hp⟩ := Int.eq_ofNat_of_zero_le b1
    rw [hp] at b2 ⊢
    have hpl : p < l.length := by omega
    have hix := ixD_nat hpl
    have st := perm_step h4 hpl
    generalize hv : l.getD p 0 = v at hix st
    have hoL : o.length < LIM := by unfold LIM at hn ⊢; omega
    have c1 : cutD (l.map nI) none (some (p : Int)) = (l.take p).map nI := by rw [cutD_to, List.map_take]
    have c2 : cutD (l.map nI) (some ((p : Int) + 1)) none = (l.drop (p + 1)).map nI := by
      have := cutD_from (l.map nI) (p + 1)
      rw [List.map_drop]
      simpa using this
    have ca : addD (.list ((l.take p).map nI)) (.list ((l.drop (p + 1)).map nI)) = some (oL (l.take p ++ l.drop (p + 1))) := by
      rw [addD_list (by simp; omega), ← List.map_append]
    refine ⟨_, rfl, ?_⟩
    simp at c1 c2 ca hix ⊢
    simp [hix, hoL, c1, c2, ca]
    exact ⟨l.take p ++ l.drop (p + 1), o ++ [v], some (nI p), y, by simp, by simpa using st, by simp [h5]⟩)
  simp
  refine ⟨o, n, by omega, rfl, ?_⟩
  have hlen := h4.length_eq
  rw [List.length_append, List.length_range] at hlen
  have hl : l = [] := by
    apply List.eq_nil_of_length_eq_zero
    omega
  rw [hl, List.append_nil] at h4
  exact h4
end DL
set_option Elab.async false
set_option linter.all false
set_option maxRecDepth 100000
/-! Plain: orders. -/
namespace DL
open PySem PySem.Spec PyProof.Rows L2

abbrev rgI (n : Nat) : List Int := (List.range n).map fun k : Nat => (k : Int)
theorem rgI_sorted (n : Nat) : (rgI n).Pairwise (· ≤ ·) := by
  unfold rgI
  rw [List.pairwise_map]
  exact (List.pairwise_lt_range (n := n)).imp fun h => by omega
theorem srt_rg {ns : List Int} {n : Nat} : srtI ns = rgI n ↔ ns.Perm (rgI n) := by
  constructor
  · intro h
    rw [← h]
    exact (srtI_perm ns).symm
  · intro h
    exact sorted_uniq ((srtI_perm ns).trans h) (srtI_sorted ns) (rgI_sorted n)
/-- an order -/
def isOrd (ns : List Int) : Bool := decide (srtI ns = rgI ns.length)
theorem isOrd_iff {ns : List Int} : isOrd ns = true ↔ ns.Perm (rgI ns.length) := by
  unfold isOrd
  rw [decide_eq_true_iff, srt_rg]
theorem oL_iL (o : List Nat) : oL o = iL (o.map fun k : Nat => (k : Int)) := by
  unfold oL iL
  rw [List.map_map]
  rfl
theorem map_nI (o : List Nat) : o.map nI = (o.map fun k : Nat => (k : Int)).map PyData.int := by
  rw [List.map_map]
  rfl
theorem castI_inj {a b : List Nat} (h : a.map (fun k : Nat => (k : Int)) = b.map fun k : Nat => (k : Int)) : a = b :=
  (List.map_inj_right fun x y e => by omega).mp h
theorem F_is_order_eq (ns : List Int) (h : ns.length ≤ LIM) : F_is_order [iL ns] = .ok (.bool (isOrd ns)) := by
  have hr := rgL1_nat (n := ns.length) h
  have hs := srtD_int ns
  have he := eqD_ints (srtI ns) (rgI ns.length)
  rw [map_nI] at hr
  unfold iL at hs he
  simp only [F_is_order, callS_eq, g_is_order]
  simp only [iL, sRet, b2, eL, cB, aC, eV, aN, b1, List.map_cons, List.map_nil, List.length_cons, List.length_nil, List.cons_append, List.nil_append, gE_zero, Rs.bind_ok, Rs.map_ok, hs, oR_some, lenD_list, List.length_map, hr, he, liftS_ok, outR_rt]
  rfl
theorem F_check_order_eq (ns : List Int) (h : ns.length ≤ LIM) : F_check_order [iL ns] = if isOrd ns = true then .ok .none else .er "NotOrder" [("label", .str "NotOrder")] := by
  have he := F_is_order_eq ns h
  simp [F_check_order, callS_eq, g_check_order, flD]
  simp at he
  simp [he]
  cases isOrd ns <;> simp
/-! orders of numbers -/
structure IsP (o : List Nat) (n : Nat) : Prop where
  p : o.Perm (List.range n)
theorem IsP.len {o : List Nat} {n : Nat} (h : IsP o n) : o.length = n := by simpa using h.p.length_eq
theorem IsP.nd {o : List Nat} {n : Nat} (h : IsP o n) : o.Nodup := h.p.nodup_iff.mpr List.nodup_range
theorem IsP.mem {o : List Nat} {n : Nat} (h : IsP o n) {k : Nat} : k ∈ o ↔ k < n := by rw [h.p.mem_iff, List.mem_range]
theorem IsP.lt {o : List Nat} {n : Nat} (h : IsP o n) {k : Nat} (hk : k < n) : o.getD k 0 < n := by
  have hk' : k < o.length := by rw [h.len]; exact hk
  rw [List.getD_eq_getElem?_getD, List.getElem?_eq_getElem hk']
  exact h.mem.mp (List.getElem_mem hk')
theorem IsP.ord {o : List Nat} {n : Nat} (h : IsP o n) : isOrd (o.map fun k : Nat => (k : Int)) = true := by
  rw [isOrd_iff, List.length_map, h.len]
  exact h.p.map _
theorem IsP.inj {o : List Nat} {n : Nat} (h : IsP o n) {j k : Nat} (hj : j < n) (hk : k < n) (e : o.getD j 0 = o.getD k 0) : j = k := by
  have hj' : j < o.length := by rw [h.len]; exact hj
  have hk' : k < o.length := by rw [h.len]; exact hk
  rw [List.getD_eq_getElem?_getD, List.getD_eq_getElem?_getD, List.getElem?_eq_getElem hj', List.getElem?_eq_getElem hk'] at e
  simp only [Option.getD_some] at e
  exact (List.getElem?_inj hj' h.nd).mp (by rw [List.getElem?_eq_getElem hj', List.getElem?_eq_getElem hk', e])
/-- the inverse -/
def invO (o : List Nat) : List Nat := (List.range o.length).map fun k => o.idxOf k
theorem invO_len (o : List Nat) : (invO o).length = o.length := by simp [invO]
theorem invO_get {o : List Nat} {k : Nat} (h : k < o.length) : (invO o).getD k 0 = o.idxOf k := by simp [invO, List.getD_eq_getElem?_getD, h]
theorem IsP.idx {o : List Nat} {n : Nat} (h : IsP o n) {k : Nat} (hk : k < n) : o.idxOf k < n := by
  rw [← h.len]
  exact List.idxOf_lt_length_of_mem (h.mem.mpr hk)
theorem IsP.at_idx {o : List Nat} {n : Nat} (h : IsP o n) {k : Nat} (hk : k < n) : o.getD (o.idxOf k) 0 = k := by
  have hm := h.mem.mpr hk
  have hl := List.idxOf_lt_length_of_mem hm
  rw [List.getD_eq_getElem?_getD, List.getElem?_eq_getElem hl]
  simp
theorem IsP.idx_at {o : List Nat} {n : Nat} (h : IsP o n) {k : Nat} (hk : k < n) : o.idxOf (o.getD k 0) = k := h.inj (h.idx (h.lt hk)) hk (h.at_idx (h.lt hk))
theorem ext_getD {a b : List Nat} (hl : a.length = b.length) (h : ∀ k, k < a.length → a.getD k 0 = b.getD k 0) : a = b := by
  apply List.ext_getElem hl
  intro i h1 h2
  have := h i h1
  simpa [List.getD_eq_getElem?_getD, h1, h2] using this
theorem nd_map_range {n : Nat} {f : Nat → Nat} (h : ∀ a b, a < n → b < n → f a = f b → a = b) : ((List.range n).map f).Nodup := by
  rw [List.nodup_iff_pairwise_ne, List.pairwise_map]
  refine List.Pairwise.imp_of_mem ?_ (List.pairwise_lt_range (n := n))
  intro a b ha hb hab e
  have := h a b (List.mem_range.mp ha) (List.mem_range.mp hb) e
  omega
theorem IsP.of {o : List Nat} {n : Nat} (hl : o.length = n) (hb : ∀ k ∈ o, k < n) (hn : o.Nodup) : IsP o n := by
  refine ⟨(List.perm_ext_iff_of_nodup hn List.nodup_range).mpr fun k => ⟨fun h => List.mem_range.mpr (hb k h), fun h => ?_⟩⟩
  rw [List.mem_range] at h
  by_cases hk : k ∈ o
  · exact hk
  · exfalso
    have h2 : (k :: o).Nodup := List.nodup_cons.mpr ⟨hk, hn⟩
    have := h2.length_le_of_subset (l₂ := List.range n) fun z hz => by
      rcases List.mem_cons.mp hz with e | e
      · subst e; exact List.mem_range.mpr h
      · exact List.mem_range.mpr (hb z e)
    simp only [List.length_cons, List.length_range] at this
    omega
theorem IsP.range (n : Nat) : IsP (List.range n) n := ⟨List.Perm.refl _⟩
theorem IsP.inv {o : List Nat} {n : Nat} (h : IsP o n) : IsP (invO o) n := by
  refine .of (by rw [invO_len, h.len]) (fun k hk => ?_) ?_
  · unfold invO at hk
    obtain ⟨j, hj, rfl⟩ := List.mem_map.mp hk
    rw [List.mem_range, h.len] at hj
    exact h.idx hj
  · unfold invO
    refine nd_map_range fun a b ha hb e => ?_
    rw [h.len] at ha hb
    rw [← h.at_idx ha, ← h.at_idx hb, e]
/-! backward, _law_back -/
def PBack (o : List Nat) (i : Nat) (γ : Env) : Prop := ∃ (f : List Nat) (x : Option D), γ = [some (oL o), some (oL f), x] ∧ f.length = o.length ∧ ∀ j, j < i → f.getD (o.getD j 0) 0 = j
theorem getD_set_eq {f : List Nat} {i v : Nat} (h : i < f.length) : (f.set i v).getD i 0 = v := by simp [List.getD_eq_getElem?_getD, h]
theorem getD_set_ne {f : List Nat} {i j v : Nat} (h : i ≠ j) : (f.set i v).getD j 0 = f.getD j 0 := by simp [List.getD_eq_getElem?_getD, List.getElem?_set_ne h]
theorem F_backward_eq {o : List Nat} {n : Nat} (h : IsP o n) (hn : n ≤ LIM) : F_backward [oL o] = .ok (oL (invO o)) := by
  have hr := rg1_nat (n := n) (by unfold LIM at hn; omega)
  have hrep := repD_nat (ds := [PyData.int 0]) (k := n) hn (by simpa using hn)
  rw [rep_one] at hrep
  have hl := h.len
  simp [F_backward, callS_eq, g_backward, hr, hrep, hl]
  generalize hf : forS _ _ _ _ = out
  obtain ⟨γ', rfl, f, x, rfl, h1, h2⟩ := for_rg hf (PBack o) ⟨List.replicate n 0, none, by simp, by simp [hl], fun j hj => absurd hj (Nat.not_lt_zero _)⟩ (by
    rintro i hi γ ⟨f, x, rfl, h1, h2⟩
    have hio : i < o.length := by omega
    have hix := ixD_nat hio
    have hlt := h.lt hi
    have hput := putL_nat (ds := f.map nI) (d := nI i) (i := o.getD i 0) (by rw [List.length_map]; omega)
    have hst : ∀ j, j < i + 1 → (f.set (o.getD i 0) i).getD (o.getD j 0) 0 = j := fun j hj => by
      by_cases e : j = i
      · subst e
        exact getD_set_eq (by omega)
      · rw [getD_set_ne fun z => e (h.inj (by omega) hi z.symm)]
        exact h2 j (by omega)
    generalize o.getD i 0 = v at hix hput hst hlt
    refine ⟨_, rfl, ?_⟩
    simp at hix hput ⊢
    simp [hix, hput]
    exact ⟨f.set v i, some (nI i), by simp [List.map_set], by simp [h1], hst⟩)
  simp
  congr 1
  refine ext_getD (by rw [h1, invO_len]) fun k hk => ?_
  have hkn : k < n := by omega
  rw [invO_get (by omega)]
  have := h2 (o.idxOf k) (h.idx hkn)
  rw [h.at_idx hkn] at this
  exact this
theorem findIdx_idx (o : List Nat) (k : Nat) : (o.map nI).findIdx? (fun z => PyData.eqv z (nI k)) = if k ∈ o then some (o.idxOf k) else none := by
  induction o with
  | nil => rfl
  | cons a r ih =>
    rw [List.map_cons, List.findIdx?_cons, ih]
    by_cases e : a = k
    · subst e
      simp [PyData.eqv]
    · have : PyData.eqv (nI a) (nI k) = false := by simp [PyData.eqv]; omega
      rw [this]
      have e2 : ¬ k = a := fun z => e z.symm
      simp [List.idxOf_cons, e, e2]
      have e3 : (a == k) = false := by simpa using e
      by_cases hk : k ∈ r <;> simp [hk, e3]
theorem idxD_nat {o : List Nat} {k : Nat} (h : k ∈ o) : idxD (oL o) [nI k] = some (nI (o.idxOf k)) := by
  show (if _ then _ else _) = _
  rw [if_pos ⟨(ok_nats 63 o).shaped, (ok_int 64 _).shaped⟩, findIdx_idx, if_pos h]
  rfl
theorem F__law_back_eq {o : List Nat} {n : Nat} (h : IsP o n) (hn : n ≤ LIM) : F__law_back [oL o] = .ok (oL (invO o)) := by
  have hl := h.len
  have hr := rg1_nat (n := n) (by unfold LIM at hn; omega)
  simp [F__law_back, callS_eq, g__law_back, hr, hl]
  rw [comp1 (fun k => nI (o.idxOf k)) (by simpa using hn) (fun x hx => by
    have := idxD_nat (h.mem.mpr (List.mem_range.mp hx))
    simp at this
    simp [this])]
  simp [invO, hl]
theorem F_behind_eq {cs : List D} {o : List Nat} {n : Nat} (hb : ∀ k ∈ o, k < cs.length) (hn : o.length ≤ LIM) : F_behind [.list cs, oL o] = .ok (.list (o.map fun k => cs.getD k .none)) := by
  simp [F_behind, callS_eq, g_behind]
  rw [comp1 (fun k => cs.getD k .none) hn (fun x hx => by
    have := ixD_list (hb x hx)
    simp [this, hb x hx])]
  simp
theorem F__law_then_eq {cs : List D} {o : List Nat} (hb : ∀ k ∈ o, k < cs.length) (hn : o.length ≤ LIM) : F__law_then [.list cs, oL o] = .ok (.list (o.map fun k => cs.getD k .none)) := by
  simp [F__law_then, callS_eq, g__law_then]
  rw [comp1 (fun k => cs.getD k .none) hn (fun x hx => by
    have := ixD_list (hb x hx)
    simp [this, hb x hx])]
  simp
theorem F__law_then_nat {o p : List Nat} (hb : ∀ k ∈ p, k < o.length) (hn : p.length ≤ LIM) : F__law_then [oL o, oL p] = .ok (oL (p.map fun k => o.getD k 0)) := by
  have := F__law_then_eq (cs := o.map nI) (o := p) (fun k hk => by rw [List.length_map]; exact hb k hk) hn
  rw [show oL o = .list (o.map nI) from rfl, this]
  congr 2
  rw [List.map_map]
  apply List.map_congr_left
  intro k hk
  simp [hb k hk]
end DL
set_option Elab.async false
set_option linter.all false
set_option maxRecDepth 100000
/-! Plain: gcd and lcm. -/
namespace DL
open PySem PySem.Spec PyProof.Rows L2

def QGcd (g : Nat) (o : Out) : Prop := ∃ a' b' : Nat, o = .nx [some (nI a'), some (nI b')] ∧ a' = g
def QLGcd (g : Nat) (o : Out) : Prop := ∃ (a' b' : Nat) (x y : Option D), o = .nx [some (nI a'), some (nI b'), x, y] ∧ a' = g
def PGcd (g b0 : Nat) (k : Nat) (γ : Env) : Prop := ∃ a b : Nat, γ = [some (nI a), some (nI b)] ∧ Nat.gcd a b = g ∧ b + k ≤ b0
theorem gcd_mod {a b : Nat} : Nat.gcd b (a % b) = Nat.gcd a b := by
  rw [Nat.gcd_comm a b, Nat.gcd_rec b a, Nat.gcd_comm]
theorem F_gcd_of_eq (a b : Nat) (hb : b ≤ 1000000000000000000000000000000) : F_gcd_of [nI a, nI b] = .ok (nI (Nat.gcd a b)) := by
  simp [F_gcd_of, callS_eq, g_gcd_of]
  generalize hf : whileS _ _ _ _ = o
  have := while_turns hf (PGcd (Nat.gcd a b) b) (QGcd (Nat.gcd a b)) b hb ⟨a, b, rfl, rfl, by omega⟩ (fun k γ ⟨a', b', _, _, h⟩ => by omega) (by
    rintro k γ ⟨a', b', rfl, h1, h2⟩
    by_cases h : 0 < b'
    · left
      have hm : modD (nI a') (nI b') = some (nI (a' % b')) := by
        have := modD_int (i := a') (j := b') (by omega)
        simpa using this
      simp at hm
      simp [h, hm]
      exact ⟨b', a' % b', by simp, by rw [gcd_mod, h1], by have := Nat.mod_lt a' h; omega⟩
    · right
      have h0 : b' = 0 := by omega
      subst h0
      simp
      exact ⟨a', 0, rfl, by simpa using h1⟩)
  obtain ⟨a', b', rfl, rfl⟩ := this
  simp
def PLGcd (g m i : Nat) (γ : Env) : Prop := ∃ (a b : Nat) (x y : Option D), γ = [some (nI a), some (nI b), x, y] ∧ Nat.gcd a b = g ∧ ∃ j, (i = 2 * j ∧ j ≤ m ∧ b < 2 ^ (m - j)) ∨ (i = 2 * j + 1 ∧ j < m ∧ a < 2 ^ (m - j) ∧ b < a)
theorem F__law_gcd_eq (a b : Nat) (hb : b < 2 ^ 200) : F__law_gcd [nI a, nI b] = .ok (nI (Nat.gcd a b)) := by
  have hr := rg1_nat (n := 2000) (by omega)
  simp at hr
  simp [F__law_gcd, callS_eq, g__law_gcd, hr]
  generalize hf : forS _ _ _ _ = o
  have := for_rgT hf (PLGcd (Nat.gcd a b) 200) (QLGcd (Nat.gcd a b)) ⟨a, b, none, none, by simp, rfl, 0, .inl ⟨rfl, by omega, hb⟩⟩ (by
    rintro i hi γ ⟨a', b', x, y, rfl, h1, j, hj⟩
    refine ⟨_, rfl, ?_⟩
    by_cases h : b' = 0
    · subst h
      simp
      exact ⟨a', 0, _, _, rfl, by simpa using h1⟩
    · have hm : modD (nI a') (nI b') = some (nI (a' % b')) := by
        have := modD_int (i := a') (j := b') (by omega)
        simpa using this
      simp at hm
      simp [h, hm]
      refine ⟨b', a' % b', some (nI i), some (nI (a' % b')), by simp, by rw [gcd_mod, h1], ?_⟩
      have hlt := Nat.mod_lt a' (show 0 < b' by omega)
      rcases hj with ⟨e1, e2, e3⟩ | ⟨e1, e2, e3, e4⟩
      · refine ⟨j, .inr ⟨by omega, ?_, e3, hlt⟩⟩
        by_cases hjm : j = 200
        · subst hjm; simp at e3; omega
        · omega
      · refine ⟨j + 1, .inl ⟨by omega, by omega, ?_⟩⟩
        have h3 : a' % b' + b' ≤ a' := by
          have h5 := Nat.div_add_mod a' b'
          have h6 : 1 ≤ a' / b' := (Nat.one_le_div_iff (by omega)).mpr (by omega)
          have h7 : b' * 1 ≤ b' * (a' / b') := Nat.mul_le_mul_left _ h6
          omega
        have h4 : 2 ^ (200 - j) = 2 * 2 ^ (200 - (j + 1)) := by
          rw [show 200 - j = (200 - (j + 1)) + 1 by omega, Nat.pow_succ]
          omega
        omega) (by
    rintro γ ⟨a', b', x, y, rfl, h1, j, hj⟩
    exfalso
    omega)
  obtain ⟨a', b', x, y, rfl, rfl⟩ := this
  simp
theorem gcd_small {a b : Nat} (hb : 0 < b) : 0 < Nat.gcd a b ∧ Nat.gcd a b ≤ b := ⟨Nat.gcd_pos_of_pos_right _ hb, Nat.le_of_dvd hb (Nat.gcd_dvd_right a b)⟩
theorem F_lcm_of_eq (a b : Nat) (h0 : 0 < b) (hb : b < 18446744073709551616) : F_lcm_of [nI a, nI b] = .ok (nI (Nat.lcm a b)) := by
  have hg := F_gcd_of_eq a b (by omega)
  obtain ⟨g1, g2⟩ := gcd_small (a := a) h0
  have hm := mulD_int (i := a) (j := b) (.inr ⟨by omega, by omega⟩)
  have hd := fdivD_int (i := (a : Int) * b) (j := Nat.gcd a b) (by omega) (by omega)
  simp at hg
  simp [F_lcm_of, callS_eq, g_lcm_of, hg, hm, hd]
  simp [Nat.lcm]
end DL
set_option Elab.async false
set_option linter.all false
set_option maxRecDepth 100000
/-! Plain: the cycles of an order. -/
namespace DL
open PySem PySem.Spec PyProof.Rows L2

/-! ### steps of an order -/
def itr (g : List Nat) : Nat → Nat → Nat
  | 0, x => x
  | k + 1, x => g.getD (itr g k x) 0
theorem itr_add (g : List Nat) (j : Nat) : ∀ k x, itr g (k + j) x = itr g k (itr g j x)
  | 0, x => by rw [Nat.zero_add]; rfl
  | k + 1, x => by
    rw [show k + 1 + j = (k + j) + 1 by omega]
    show g.getD (itr g (k + j) x) 0 = g.getD (itr g k (itr g j x)) 0
    rw [itr_add g j k x]
theorem itr_one (g : List Nat) (x : Nat) : itr g 1 x = g.getD x 0 := rfl
theorem itr_succ' (g : List Nat) (k x : Nat) : itr g (k + 1) x = itr g k (g.getD x 0) := by rw [itr_add g 1 k x]; rfl
section
variable {g : List Nat} {n : Nat}
theorem IsP.itr_lt (h : IsP g n) {x : Nat} (hx : x < n) : ∀ k, itr g k x < n
  | 0 => hx
  | k + 1 => h.lt (h.itr_lt hx k)
theorem IsP.itr_inj (h : IsP g n) {x y : Nat} (hx : x < n) (hy : y < n) : ∀ k, itr g k x = itr g k y → x = y
  | 0, e => e
  | k + 1, e => h.itr_inj hx hy k (h.inj (h.itr_lt hx k) (h.itr_lt hy k) e)
theorem least {p : Nat → Prop} (h : ∃ q, p q) : ∃ q, p q ∧ ∀ j, j < q → ¬ p j := by
  obtain ⟨q, hq⟩ := h
  induction q using Nat.strongRecOn with
  | _ q ih =>
    by_cases e : ∃ j, j < q ∧ p j
    · obtain ⟨j, hj, pj⟩ := e
      exact ih j hj pj
    · exact ⟨q, hq, fun j hj pj => e ⟨j, hj, pj⟩⟩
/-- p turns bring x back, fewer do not -/
structure IsPer (g : List Nat) (x p : Nat) : Prop where
  pos : 0 < p
  back : itr g p x = x
  min : ∀ j, 0 < j → j < p → itr g j x ≠ x
theorem IsP.per_ex (h : IsP g n) {x : Nat} (hx : x < n) : ∃ p, IsPer g x p ∧ p ≤ n := by
  have key : ∃ q, 0 < q ∧ q ≤ n ∧ itr g q x = x := by
    refine Classical.byContradiction fun hno => ?_
    have hnd : ((List.range (n + 1)).map fun k => itr g k x).Nodup := nd_map_range fun a b ha hb e => by
      refine Classical.byContradiction fun hab => ?_
      rcases Nat.lt_or_gt_of_ne hab with hl | hl
      · have e2 : itr g (b - a + a) x = itr g a (itr g (b - a) x) := by rw [show b - a + a = a + (b - a) by omega, itr_add g (b - a) a]
        rw [show b - a + a = b by omega, ← e] at e2
        exact hno ⟨b - a, by omega, by omega, (h.itr_inj hx (h.itr_lt hx _) a e2).symm⟩
      · have e2 : itr g (a - b + b) x = itr g b (itr g (a - b) x) := by rw [show a - b + b = b + (a - b) by omega, itr_add g (a - b) b]
        rw [show a - b + b = a by omega, e] at e2
        exact hno ⟨a - b, by omega, by omega, (h.itr_inj hx (h.itr_lt hx _) b e2).symm⟩
    have := hnd.length_le_of_subset (l₂ := List.range n) fun z hz => by
      obtain ⟨k, _, rfl⟩ := List.mem_map.mp hz
      exact List.mem_range.mpr (h.itr_lt hx k)
    simp at this
    omega
  obtain ⟨q, hq, hmin⟩ := least key
  exact ⟨q, ⟨hq.1, hq.2.2, fun j h0 hj e => hmin j hj ⟨h0, by omega, e⟩⟩, hq.2.1⟩
open Classical in
noncomputable def per (g : List Nat) (x : Nat) : Nat := if h : ∃ p, IsPer g x p then Classical.choose h else 1
theorem IsPer.uniq {x p q : Nat} (a : IsPer g x p) (b : IsPer g x q) : p = q := by
  rcases Nat.lt_trichotomy p q with h | h | h
  · exact absurd a.back (b.min p a.pos h)
  · exact h
  · exact absurd b.back (a.min q b.pos h)
theorem IsP.per (h : IsP g n) {x : Nat} (hx : x < n) : IsPer g x (per g x) ∧ DL.per g x ≤ n := by
  obtain ⟨p, hp, hl⟩ := h.per_ex hx
  have hex : ∃ p, IsPer g x p := ⟨p, hp⟩
  have : DL.per g x = Classical.choose hex := dif_pos hex
  rw [this, ← hp.uniq (Classical.choose_spec hex)]
  exact ⟨hp, hl⟩
theorem IsPer.mul {x p : Nat} (a : IsPer g x p) : ∀ m, itr g (m * p) x = x
  | 0 => by rw [Nat.zero_mul]; rfl
  | m + 1 => by rw [Nat.succ_mul, itr_add g p (m * p), a.back, a.mul m]
theorem IsPer.mod {x p : Nat} (a : IsPer g x p) (k : Nat) : itr g (k % p) x = itr g k x := by
  have : itr g k x = itr g (k % p + k / p * p) x := by rw [Nat.mul_comm, Nat.mod_add_div]
  rw [this, itr_add, a.mul]
/-- way back -/
theorem IsPer.ret {x p : Nat} (a : IsPer g x p) (k : Nat) : ∃ m, itr g m (itr g k x) = x := by
  refine ⟨p - k % p, ?_⟩
  rw [← a.mod k, ← itr_add, show p - k % p + k % p = p by have := Nat.mod_lt k a.pos; omega]
  exact a.back
/-- the cycle of x -/
noncomputable def cyc (g : List Nat) (x : Nat) : List Nat := (List.range (per g x)).map fun k => itr g k x
theorem IsP.cyc_nd (h : IsP g n) {x : Nat} (hx : x < n) : (cyc g x).Nodup := nd_map_range fun a b ha hb e => by
  have hp := (h.per hx).1
  refine Classical.byContradiction fun hab => ?_
  rcases Nat.lt_or_gt_of_ne hab with hl | hl
  · have e2 : itr g b x = itr g a (itr g (b - a) x) := by rw [← itr_add, show a + (b - a) = b by omega]
    rw [← e] at e2
    exact hp.min (b - a) (by omega) (by omega) (h.itr_inj hx (h.itr_lt hx _) a e2).symm
  · have e2 : itr g a x = itr g b (itr g (a - b) x) := by rw [← itr_add, show b + (a - b) = a by omega]
    rw [e] at e2
    exact hp.min (a - b) (by omega) (by omega) (h.itr_inj hx (h.itr_lt hx _) b e2).symm
theorem IsP.mem_cyc (h : IsP g n) {x : Nat} (hx : x < n) {y : Nat} : y ∈ cyc g x ↔ ∃ k, itr g k x = y := by
  unfold cyc
  rw [List.mem_map]
  constructor
  · rintro ⟨k, _, e⟩; exact ⟨k, e⟩
  · rintro ⟨k, e⟩
    have hp := (h.per hx).1
    exact ⟨k % DL.per g x, List.mem_range.mpr (Nat.mod_lt _ hp.pos), by rw [hp.mod, e]⟩
open Classical in
noncomputable def cycs (g : List Nat) : Nat → List (List Nat)
  | 0 => []
  | i + 1 => if i ∈ (cycs g i).flatten then cycs g i else cycs g i ++ [cyc g i]
theorem cycs_of {i : Nat} : ∀ {c : List Nat}, c ∈ cycs g i → ∃ z, z < i ∧ c = cyc g z := by
  induction i with
  | zero => intro c h; cases h
  | succ i ih =>
    intro c h
    unfold cycs at h
    split at h
    · obtain ⟨z, hz, e⟩ := ih h
      exact ⟨z, by omega, e⟩
    · rcases List.mem_append.mp h with h | h
      · obtain ⟨z, hz, e⟩ := ih h
        exact ⟨z, by omega, e⟩
      · exact ⟨i, by omega, by simpa using h⟩
theorem IsP.mem_flat (h : IsP g n) {i : Nat} (hi : i ≤ n) : ∀ {y : Nat}, y ∈ (cycs g i).flatten ↔ ∃ z, z < i ∧ ∃ k, itr g k z = y := by
  induction i with
  | zero => intro y; simp [cycs]
  | succ i ih =>
    have ih' : ∀ {y : Nat}, y ∈ (cycs g i).flatten ↔ ∃ z, z < i ∧ ∃ k, itr g k z = y := ih (by omega)
    have hin : i < n := hi
    intro y
    unfold cycs
    by_cases hm : i ∈ (cycs g i).flatten
    · rw [if_pos hm, ih']
      constructor
      · rintro ⟨z, hz, k, e⟩; exact ⟨z, by omega, k, e⟩
      · rintro ⟨z, hz, k, e⟩
        by_cases hzi : z = i
        · subst hzi
          obtain ⟨z', hz', k', e'⟩ := ih'.mp hm
          exact ⟨z', hz', k + k', by rw [itr_add, e', e]⟩
        · exact ⟨z, by omega, k, e⟩
    · rw [if_neg hm, List.flatten_append, List.mem_append, ih']
      simp only [List.flatten_cons, List.flatten_nil, List.append_nil]
      rw [h.mem_cyc hin]
      constructor
      · rintro (⟨z, hz, k, e⟩ | ⟨k, e⟩)
        · exact ⟨z, by omega, k, e⟩
        · exact ⟨i, by omega, k, e⟩
      · rintro ⟨z, hz, k, e⟩
        by_cases hzi : z = i
        · subst hzi; exact .inr ⟨k, e⟩
        · exact .inl ⟨z, by omega, k, e⟩
/-- an orbit that no earlier cycle holds -/
theorem IsP.new (h : IsP g n) {i : Nat} (hi : i < n) (hm : i ∉ (cycs g i).flatten) (k : Nat) : itr g k i ∉ (cycs g i).flatten := fun z => by
  obtain ⟨y, hy, j, e⟩ := (h.mem_flat (Nat.le_of_lt hi)).mp z
  obtain ⟨m, e2⟩ := ((h.per hi).1).ret k
  exact hm ((h.mem_flat (Nat.le_of_lt hi)).mpr ⟨y, hy, m + j, by rw [itr_add, e, e2]⟩)
theorem IsP.old (h : IsP g n) {i : Nat} (hi : i < n) {k : Nat} : itr g k i ∈ (List.range k).map (fun j => itr g j i) → DL.per g i ≤ k := fun z => by
  obtain ⟨j, hj, e⟩ := List.mem_map.mp z
  rw [List.mem_range] at hj
  refine Classical.byContradiction fun hk => ?_
  have e2 : itr g k i = itr g j (itr g (k - j) i) := by rw [← itr_add, show j + (k - j) = k by omega]
  rw [← e] at e2
  exact (h.per hi).1.min (k - j) (by omega) (by omega) (h.itr_inj hi (h.itr_lt hi _) j e2).symm
theorem IsP.hit (h : IsP g n) {i : Nat} (hi : i < n) : itr g (DL.per g i) i ∈ (List.range (DL.per g i)).map (fun j => itr g j i) := by
  have hp := (h.per hi).1
  rw [hp.back]
  exact List.mem_map.mpr ⟨0, List.mem_range.mpr hp.pos, rfl⟩
end
/-! ### cycles_of -/
abbrev bL (l : List Bool) : D := .list (l.map PyData.bool)
abbrev LL (c : List (List Nat)) : D := .list (c.map oL)
def cyk (g : List Nat) (k x : Nat) : List Nat := (List.range k).map fun j => itr g j x
theorem cyk_succ (g : List Nat) (k x : Nat) : cyk g (k + 1) x = cyk g k x ++ [itr g k x] := by simp [cyk, List.range_succ]
def PCO (o g : List Nat) (n i : Nat) (γ : Env) : Prop := ∃ (s : List Bool) (x y : Option D), γ = [some (oL o), some (oL g), some (bL s), some (LL (cycs g i)), x, y] ∧ s.length = n ∧ (cycs g i).length ≤ i ∧ ∀ y, y < n → (s.getD y false = true ↔ y ∈ (cycs g i).flatten)
def PCW (o g : List Nat) (n i : Nat) (k : Nat) (γ : Env) : Prop := ∃ (s : List Bool), γ = [some (oL o), some (oL g), some (bL s), some (LL (cycs g i)), some (nI (itr g k i)), some (oL (cyk g k i))] ∧ s.length = n ∧ (∀ y, y < n → (s.getD y false = true ↔ y ∈ (cycs g i).flatten ∨ y ∈ cyk g k i)) ∧ (i ∈ (cycs g i).flatten → k = 0) ∧ k ≤ per g i
def QCW (o g : List Nat) (n i : Nat) (out : Out) : Prop := ∃ (s : List Bool) (k : Nat), out = .nx [some (oL o), some (oL g), some (bL s), some (LL (cycs g i)), some (nI (itr g k i)), some (oL (cyk g k i))] ∧ s.length = n ∧ (∀ y, y < n → (s.getD y false = true ↔ y ∈ (cycs g i).flatten ∨ y ∈ cyk g k i)) ∧ ((i ∈ (cycs g i).flatten ∧ k = 0) ∨ (i ∉ (cycs g i).flatten ∧ k = per g i))
theorem ixD_bl {s : List Bool} {i : Nat} (h : i < s.length) : ixD (bL s) (nI i) = some (.bool (s.getD i false)) := by
  have := ixD_list (ds := s.map PyData.bool) (i := i) (by simpa using h)
  rw [this]
  simp [h]
theorem getDb_set_eq {f : List Bool} {i : Nat} {v : Bool} (h : i < f.length) : (f.set i v).getD i false = v := by simp [List.getD_eq_getElem?_getD, h]
theorem getDb_set_ne {f : List Bool} {i j : Nat} {v : Bool} (h : i ≠ j) : (f.set i v).getD j false = f.getD j false := by simp [List.getD_eq_getElem?_getD, List.getElem?_set_ne h]
theorem F_cycles_of_eq {o : List Nat} {n : Nat} (h : IsP o n) (hn : n < LIM) : F_cycles_of [oL o] = .ok (LL (cycs (invO o) n)) := by
  have hg := h.inv
  have hb := F_backward_eq h (Nat.le_of_lt hn)
  have hr := rg1_nat (n := n) (by unfold LIM at hn; omega)
  have hrep := repD_nat (ds := [PyData.bool false]) (k := n) (Nat.le_of_lt hn) (by simpa using Nat.le_of_lt hn)
  rw [rep_one] at hrep
  have hl := h.len
  generalize invO o = g at *
  simp at hb hr
  simp [F_cycles_of, callS_eq, g_cycles_of, hb, hrep, hl, hr]
  generalize hf : forS _ _ _ _ = out
  obtain ⟨γ', rfl, s, x, y, rfl, h1, h2, h3⟩ := for_rg hf (PCO o g n) ⟨List.replicate n false, none, none, by simp [cycs], by simp, by simp [cycs], fun y hy => by simp [cycs, List.getD_eq_getElem?_getD, List.getElem?_replicate, hy]⟩ (by
    rintro i hi γ ⟨s, x, y, rfl, h1, h2, h3⟩
    refine ⟨_, rfl, ?_⟩
    simp
    generalize hw : whileS _ _ _ _ = out2
    have hq := while_turns hw (PCW o g n i) (QCW o g n i) n (by unfold LIM at hn; omega) ⟨s, by simp [itr, cyk], h1, fun y hy => by rw [h3 y hy]; show _ ↔ _ ∨ y ∈ []; simp only [List.not_mem_nil, or_false], fun _ => rfl, by omega⟩ (fun k γ ⟨s, _, _, _, _, h5⟩ => by have := (hg.per hi).2; omega) (by
      rintro k γ ⟨s, rfl, h4, h5, h6, h7⟩
      have hlt := hg.itr_lt hi k
      have hix := ixD_bl (s := s) (i := itr g k i) (by omega)
      have hs := h5 _ hlt
      by_cases hin : s.getD (itr g k i) false = true
      · right
        have hs2 := hs.mp hin
        rw [hin] at hix
        simp at hix
        simp [hix]
        refine ⟨s, k, by simp, h4, h5, ?_⟩
        rcases hs2 with z | z
        · by_cases hf : i ∈ (cycs g i).flatten
          · exact .inl ⟨hf, h6 hf⟩
          · exact absurd z (hg.new hi hf k)
        · have h8 := hg.old hi z
          refine .inr ⟨fun hf => ?_, by omega⟩
          have h9 := h6 hf
          subst h9
          have := (hg.per hi).1.pos
          omega
      · left
        have hin2 : s.getD (itr g k i) false = false := by simpa using hin
        rw [hin2] at hix
        have hns := fun z => hin (hs.mpr z)
        have hput := putL_nat (ds := s.map PyData.bool) (d := .bool true) (i := itr g k i) (by rw [List.length_map]; omega)
        have hixg := ixD_nat (ns := g) (i := itr g k i) (by rw [hg.len]; exact hlt)
        have hne : k ≠ DL.per g i := fun e => by
          subst e
          exact hns (.inr (hg.hit hi))
        have hkl : (cyk g k i).length < LIM := by have := (hg.per hi).2; simp [cyk]; omega
        have hnew : ∀ y, y < n → ((s.set (itr g k i) true).getD y false = true ↔ y ∈ (cycs g i).flatten ∨ y ∈ cyk g (k + 1) i) := fun y hy => by
          rw [cyk_succ, List.mem_append, List.mem_singleton]
          by_cases e : itr g k i = y
          · subst e
            rw [getDb_set_eq (by omega)]
            simp
          · rw [getDb_set_ne e, h5 y hy]
            have : ¬ y = itr g k i := fun z => e z.symm
            simp [this]
        have hnf : i ∉ (cycs g i).flatten := fun hf => by
          have := h6 hf
          subst this
          exact hns (.inl hf)
        have hit : g.getD (itr g k i) 0 = itr g (k + 1) i := rfl
        rw [hit] at hixg
        generalize hv : itr g (k + 1) i = v at hixg
        simp at hix hput hixg
        simp [hix, hput, hixg, hkl]
        exact ⟨s.set (itr g k i) true, by rw [hv, cyk_succ]; simp [List.map_set], by simp [h4], hnew, fun hf => absurd hf hnf, by omega⟩)
    obtain ⟨s', k, rfl, h4, h5, h6⟩ := hq
    rcases h6 with ⟨hf, rfl⟩ | ⟨hf, rfl⟩
    · have e0 : cycs g (i + 1) = cycs g i := if_pos hf
      simp [cyk]
      exact ⟨s', some (nI (itr g 0 i)), some (oL []), by rw [e0]; simp [itr], h4, by rw [e0]; omega, fun y hy => by rw [e0, h5 y hy]; show _ ∨ y ∈ [] ↔ _; simp only [List.not_mem_nil, or_false]⟩
    · have hp := (hg.per hi).1.pos
      have hlen : (cyk g (DL.per g i) i).length = DL.per g i := by simp [cyk]
      have hlim : (cycs g i).length < LIM := by omega
      have e1 : cycs g (i + 1) = cycs g i ++ [cyk g (DL.per g i) i] := by
        show (if i ∈ (cycs g i).flatten then cycs g i else cycs g i ++ [cyc g i]) = _
        rw [if_neg hf]
        rfl
      simp [hlen, hp, hlim]
      exact ⟨s', some (nI (itr g (DL.per g i) i)), some (oL (cyk g (DL.per g i) i)), by rw [e1]; simp, h4, by rw [e1]; simp; omega, fun y hy => by rw [e1, List.flatten_append, List.mem_append, h5 y hy]; simp only [List.flatten_cons, List.flatten_nil, List.append_nil]⟩)
  simp
end DL
set_option Elab.async false
set_option linter.all false
set_option maxRecDepth 100000
/-! Plain: the laws' own cycles, periods. -/
namespace DL
open PySem PySem.Spec PyProof.Rows L2

theorem any_nat (l : List Nat) (k : Nat) : ((l.map nI).any fun z => PyData.eqv z (nI k)) = decide (k ∈ l) := by
  induction l with
  | nil => rfl
  | cons a r ih =>
    rw [List.map_cons, List.any_cons, ih]
    have : PyData.eqv (nI a) (nI k) = decide (k = a) := by
      by_cases e : a = k
      · subst e; simp [PyData.eqv]
      · have e2 : ¬ k = a := fun z => e z.symm
        have e3 : ¬ (a : Int) = k := by omega
        simp [PyData.eqv, e2, e3]
    rw [this]
    by_cases h1 : k = a <;> by_cases h2 : k ∈ r <;> simp [h1, h2]
theorem inD_nat (neg : Bool) (l : List Nat) (k : Nat) : inD neg (nI k) (oL l) = some (.bool (neg != decide (k ∈ l))) := by
  show (if _ then _ else _) = _
  rw [if_pos ⟨(ok_int 64 _).shaped, (ok_nats 63 l).shaped⟩, any_nat]
section
variable {g : List Nat} {n : Nat}
theorem IsP.flat_nd (h : IsP g n) : ∀ {i : Nat}, i ≤ n → (cycs g i).flatten.Nodup
  | 0, _ => by simp [cycs]
  | i + 1, hi => by
    have ih := h.flat_nd (i := i) (by omega)
    unfold cycs
    by_cases hm : i ∈ (cycs g i).flatten
    · rw [if_pos hm]; exact ih
    · rw [if_neg hm, List.flatten_append]
      simp only [List.flatten_cons, List.flatten_nil, List.append_nil]
      rw [List.nodup_append]
      refine ⟨ih, h.cyc_nd hi, fun a ha b hb e => ?_⟩
      subst e
      obtain ⟨k, rfl⟩ := (h.mem_cyc (show i < n from hi)).mp hb
      exact h.new hi hm k ha
theorem IsP.flat_lt (h : IsP g n) {i : Nat} (hi : i ≤ n) {y : Nat} (hy : y ∈ (cycs g i).flatten) : y < n := by
  obtain ⟨z, hz, k, rfl⟩ := (h.mem_flat hi).mp hy
  exact h.itr_lt (by omega) k
theorem IsP.flat_len (h : IsP g n) {i : Nat} (hi : i ≤ n) : (cycs g i).flatten.length ≤ n := by
  have := (h.flat_nd hi).length_le_of_subset (l₂ := List.range n) fun y hy => List.mem_range.mpr (h.flat_lt hi hy)
  simpa using this
end
def PLC (o g : List Nat) (i : Nat) (γ : Env) : Prop := ∃ (x y z w : Option D), γ = [some (oL o), some (oL g), some (oL (cycs g i).flatten), some (LL (cycs g i)), x, y, z, w] ∧ (cycs g i).length ≤ i
def PLI (o g : List Nat) (i : Nat) (k : Nat) (γ : Env) : Prop := ∃ (w : Option D), γ = [some (oL o), some (oL g), some (oL (cycs g i).flatten), some (LL (cycs g i)), some (nI i), some (oL (cyk g k i)), some (nI (itr g k i)), w] ∧ k ≤ per g i
def QLI (o g : List Nat) (i : Nat) (out : Out) : Prop := ∃ (z w : Option D), out = .nx [some (oL o), some (oL g), some (oL (cycs g i).flatten), some (LL (cycs g i)), some (nI i), some (oL (cyc g i)), z, w]
theorem F__law_cycles_eq {o : List Nat} {n : Nat} (h : IsP o n) (hn : n + n < LIM) : F__law_cycles [oL o] = .ok (LL (cycs (invO o) n)) := by
  have hg := h.inv
  have hb := F__law_back_eq h (by omega)
  have hr := rg1_nat (n := n) (by unfold LIM at hn; omega)
  have hl := h.len
  generalize invO o = g at *
  simp at hb
  simp [F__law_cycles, callS_eq, g__law_cycles, hb, hl, hr]
  generalize hf : forS _ _ _ _ = out
  obtain ⟨γ', rfl, x, y, z, w, rfl, h2⟩ := for_rg hf (PLC o g) ⟨none, none, none, none, by simp [cycs], by simp [cycs]⟩ (by
    rintro i hi γ ⟨x, y, z, w, rfl, h2⟩
    have hfl := hg.flat_len (Nat.le_of_lt hi)
    refine ⟨_, rfl, ?_⟩
    have hin := inD_nat true (cycs g i).flatten i
    by_cases hm : i ∈ (cycs g i).flatten
    · rw [decide_eq_true hm] at hin
      simp only [nI, oL] at hin
      simp only [oL, nI] 
      simp [hin, -List.mem_flatten, -List.map_flatten]
      have e0 : cycs g (i + 1) = cycs g i := if_pos hm
      exact ⟨some (nI i), y, z, w, by rw [e0], by rw [e0]; omega⟩
    · rw [decide_eq_false hm] at hin
      simp only [nI, oL] at hin
      simp only [oL, nI]
      simp [hin, -List.mem_flatten, -List.map_flatten, hl, hr]
      generalize hw : forS _ _ _ _ = out2
      have hp := (hg.per hi).1
      have hpn := (hg.per hi).2
      obtain ⟨z', w', rfl⟩ : QLI o g i out2 := for_rgT hw (PLI o g i) (QLI o g i) ⟨w, by simp [itr, cyk, -List.map_flatten], by omega⟩ (by
        rintro k hk γ ⟨w, rfl, h7⟩
        refine ⟨_, rfl, ?_⟩
        have hin := inD_nat false (cyk g k i) (itr g k i)
        by_cases hc : itr g k i ∈ cyk g k i
        · have h8 := hg.old hi hc
          have : k = DL.per g i := by omega
          subst this
          rw [decide_eq_true hc] at hin
          simp only [nI, oL] at hin
          simp only [oL, nI]
          simp [hin, -List.map_flatten]
          exact ⟨some (nI (itr g (DL.per g i) i)), some (nI (DL.per g i)), by simp [cyc, cyk, -List.map_flatten]⟩
        · rw [decide_eq_false hc] at hin
          have hne : k ≠ DL.per g i := fun e => by
            subst e
            exact hc (hg.hit hi)
          have hlt := hg.itr_lt hi k
          have hixg := ixD_nat (ns := g) (i := itr g k i) (by rw [hg.len]; exact hlt)
          have hit : g.getD (itr g k i) 0 = itr g (k + 1) i := rfl
          rw [hit] at hixg
          generalize hv : itr g (k + 1) i = v at hixg
          have hkl : (cyk g k i).length < LIM := by simp [cyk]; omega
          simp only [nI, oL] at hin hixg
          simp only [oL, nI]
          simp [hin, hixg, hkl, -List.map_flatten]
          exact ⟨some (nI k), by rw [hv, cyk_succ]; simp [-List.map_flatten], by omega⟩) (by
        rintro γ ⟨w, rfl, h7⟩
        have : DL.per g i = n := by omega
        exact ⟨_, _, by unfold cyc; rw [this]; rfl⟩)
      have hcl : (cyc g i).length ≤ n := by simp [cyc]; omega
      have ha := addD_list (a := (cycs g i).flatten.map nI) (b := (cyc g i).map nI) (by rw [List.length_map, List.length_map]; omega)
      have hlim : (cycs g i).length < LIM := by omega
      have e1 : cycs g (i + 1) = cycs g i ++ [cyc g i] := if_neg hm
      simp only [oL, nI]
      simp [ha, hlim, -List.map_flatten]
      exact ⟨some (nI i), some (oL (cyc g i)), z', w', by rw [e1]; simp [List.flatten_append, -List.map_flatten], by rw [e1]; simp; omega⟩)
  simp
/-! ### periods -/
theorem fold_take {α β : Type} (f : β → α → β) (s : β) {xs : List α} {i : Nat} (h : i < xs.length) : (xs.take (i + 1)).foldl f s = f ((xs.take i).foldl f s) xs[i] := by
  rw [List.take_succ_eq_append_getElem h, List.foldl_append]
  rfl
def lcmL (p : Nat) (c : List Nat) : Nat := Nat.lcm p c.length
noncomputable def prd (g : List Nat) (n : Nat) : Nat := (cycs g n).foldl lcmL 1
theorem fold_lcm (cs : List (List Nat)) : ∀ p : Nat, p ∣ cs.foldl lcmL p ∧ (∀ c ∈ cs, c.length ∣ cs.foldl lcmL p) := by
  induction cs with
  | nil => intro p; exact ⟨Nat.dvd_refl _, fun c h => by cases h⟩
  | cons a r ih =>
    intro p
    obtain ⟨h1, h2⟩ := ih (lcmL p a)
    refine ⟨Nat.dvd_trans (Nat.dvd_lcm_left p a.length) h1, fun c hc => ?_⟩
    rcases List.mem_cons.mp hc with e | e
    · subst e
      exact Nat.dvd_trans (Nat.dvd_lcm_right p c.length) h1
    · exact h2 c e
theorem fold_lcm_pos (cs : List (List Nat)) (hc : ∀ c ∈ cs, 0 < c.length) : ∀ p : Nat, 0 < p → 0 < cs.foldl lcmL p := by
  induction cs with
  | nil => intro p hp; exact hp
  | cons a r ih =>
    intro p hp
    exact ih (fun c h => hc c (List.mem_cons_of_mem _ h)) _ (Nat.lcm_pos hp (hc a List.mem_cons_self))
theorem fold_lcm_le (m : Nat) (hm : 1 ≤ m) (cs : List (List Nat)) (hc : ∀ c ∈ cs, c.length ≤ m) : ∀ p : Nat, cs.foldl lcmL p ≤ p * m ^ cs.length := by
  induction cs with
  | nil => intro p; simp
  | cons a r ih =>
    intro p
    have h1 := ih (fun c h => hc c (List.mem_cons_of_mem _ h)) (lcmL p a)
    have h2 : lcmL p a ≤ p * m := by
      refine Nat.le_trans ?_ (Nat.mul_le_mul_left p (hc a List.mem_cons_self))
      exact Nat.div_le_self _ _
    have h3 := Nat.mul_le_mul_right (m ^ r.length) h2
    rw [List.foldl_cons, List.length_cons, Nat.pow_succ, Nat.mul_comm (m ^ r.length) m, ← Nat.mul_assoc]
    exact Nat.le_trans h1 h3
section
variable {g : List Nat} {n : Nat}
theorem IsP.cyc_len (h : IsP g n) {c : List Nat} (hc : c ∈ cycs g n) : 0 < c.length ∧ c.length ≤ n := by
  obtain ⟨z, hz, rfl⟩ := cycs_of hc
  obtain ⟨h1, h2⟩ := h.per hz
  have := h1.pos
  simp only [cyc, List.length_map, List.length_range]
  omega
theorem cycs_len (g : List Nat) : ∀ i, (cycs g i).length ≤ i
  | 0 => by simp [cycs]
  | i + 1 => by
    have := cycs_len g i
    unfold cycs
    split
    · omega
    · rw [List.length_append, List.length_singleton]; omega
theorem IsP.prd_pos (h : IsP g n) : 0 < prd g n := fold_lcm_pos _ (fun c hc => (h.cyc_len hc).1) 1 (by omega)
theorem IsP.prd_le (h : IsP g n) (hn : 1 ≤ n) : prd g n ≤ n ^ n := by
  have h1 := fold_lcm_le n hn (cycs g n) (fun c hc => (h.cyc_len hc).2) 1
  rw [Nat.one_mul] at h1
  exact Nat.le_trans h1 (Nat.pow_le_pow_right hn (cycs_len g n))
theorem IsP.per_prd (h : IsP g n) {x : Nat} (hx : x < n) : DL.per g x ∣ prd g n := by
  have hm : x ∈ (cycs g n).flatten := (h.mem_flat (Nat.le_refl n)).mpr ⟨x, hx, 0, rfl⟩
  obtain ⟨c, hc, hxc⟩ := List.mem_flatten.mp hm
  obtain ⟨z, hz, rfl⟩ := cycs_of hc
  obtain ⟨k, hk⟩ := (h.mem_cyc hz).mp hxc
  have e : DL.per g x = DL.per g z := by
    have pz := (h.per hz).1
    have px := (h.per hx).1
    refine px.uniq ⟨pz.pos, ?_, fun j h0 hj e => ?_⟩
    · rw [← hk, ← itr_add, Nat.add_comm, itr_add, pz.back]
    · rw [← hk, ← itr_add, Nat.add_comm, itr_add] at e
      exact pz.min j h0 hj (h.itr_inj (h.itr_lt hz _) hz k e)
  rw [e]
  have := (fold_lcm (cycs g n) 1).2 _ hc
  rwa [show (cyc g z).length = DL.per g z by simp [cyc]] at this
theorem IsP.itr_prd (h : IsP g n) {x : Nat} (hx : x < n) (k : Nat) : itr g (k % prd g n) x = itr g k x := by
  have hp := (h.per hx).1
  rw [← hp.mod (k % prd g n), Nat.mod_mod_of_dvd _ (h.per_prd hx), hp.mod]
end
def PPer (o : List Nat) (cs : List (List Nat)) (i : Nat) (γ : Env) : Prop := ∃ x : Option D, γ = [some (oL o), some (nI ((cs.take i).foldl lcmL 1)), x]
theorem F_period_of_eq {o : List Nat} {n : Nat} (h : IsP o n) (hn : n < LIM) : F_period_of [oL o] = .ok (nI (prd (invO o) n)) := by
  have hc := F_cycles_of_eq h hn
  have hg := h.inv
  unfold prd
  have hcl : ∀ c ∈ cycs (invO o) n, 0 < c.length ∧ c.length ≤ n := fun c h => hg.cyc_len h
  generalize cycs (invO o) n = cs at *
  simp only [oL, LL] at hc
  simp [F_period_of, callS_eq, g_period_of, hc]
  generalize hf : forS _ _ _ _ = out
  obtain ⟨γ', rfl, x, rfl⟩ := for_all hf (PPer o cs) ⟨none, by simp⟩ (by
    rintro i hi γ ⟨x, rfl⟩
    refine ⟨_, rfl, ?_⟩
    have l1 := (hcl cs[i] (List.getElem_mem hi)).1
    have l2 := (hcl cs[i] (List.getElem_mem hi)).2
    have hl := F_lcm_of_eq ((cs.take i).foldl lcmL 1) cs[i].length l1 (by unfold LIM at hn; omega)
    simp only [nI] at hl
    simp [hl]
    exact ⟨some (oL cs[i]), by rw [fold_take _ _ hi]; simp [lcmL]⟩)
  simp
def PLPer (o : List Nat) (cs : List (List Nat)) (i : Nat) (γ : Env) : Prop := ∃ x : Option D, γ = [some (oL o), some (nI ((cs.take i).foldl lcmL 1)), x]
theorem F__law_period_eq {o : List Nat} {n : Nat} (h : IsP o n) (hn : n + n < LIM) : F__law_period [oL o] = .ok (nI (prd (invO o) n)) := by
  have hc := F__law_cycles_eq h hn
  have hg := h.inv
  unfold prd
  have hcl : ∀ c ∈ cycs (invO o) n, 0 < c.length ∧ c.length ≤ n := fun c h => hg.cyc_len h
  generalize cycs (invO o) n = cs at *
  simp only [oL, LL] at hc
  simp [F__law_period, callS_eq, g__law_period, hc]
  generalize hf : forS _ _ _ _ = out
  obtain ⟨γ', rfl, x, rfl⟩ := for_all hf (PLPer o cs) ⟨none, by simp⟩ (by
    rintro i hi γ ⟨x, rfl⟩
    refine ⟨_, rfl, ?_⟩
    have l1 := (hcl cs[i] (List.getElem_mem hi)).1
    have l2 := (hcl cs[i] (List.getElem_mem hi)).2
    have e : nI ((cs.take (i + 1)).foldl lcmL 1) = .int (((cs.take i).foldl lcmL 1 : Nat) / (Nat.gcd ((cs.take i).foldl lcmL 1) cs[i].length : Nat) * (cs[i].length : Nat)) := by
      rw [fold_take _ _ hi, lcmL, Nat.lcm, ← Nat.div_mul_right_comm (Nat.gcd_dvd_left _ _)]
      simp
    have hl := F__law_gcd_eq ((cs.take i).foldl lcmL 1) cs[i].length (by
      have h1 : cs[i].length < 18446744073709551616 := by unfold LIM at hn; omega
      exact Nat.lt_of_lt_of_le h1 (by decide +kernel))
    obtain ⟨g1, g2⟩ := gcd_small (a := (cs.take i).foldl lcmL 1) l1
    generalize (cs.take i).foldl lcmL 1 = p at *
    have hd := fdivD_int (i := p) (j := (Nat.gcd p cs[i].length : Nat)) (by omega) (by unfold LIM at hn; omega)
    have hm := mulD_int (i := (p : Int) / (Nat.gcd p cs[i].length : Nat)) (j := cs[i].length) (.inr ⟨by omega, by unfold LIM at hn; omega⟩)
    generalize Nat.gcd p cs[i].length = q at *
    simp only [nI] at hl
    simp [hl, hd, hm]
    exact ⟨some (oL cs[i]), by rw [e]⟩)
  simp
end DL
set_option Elab.async false
set_option linter.all false
set_option maxRecDepth 100000
/-! Plain: the keys of a dict made of a list. -/
namespace DL
open PySem PySem.Spec PyProof.Rows L2

/-- the keys in the order in which they are met -/
def keysOf {α : Type} [DecidableEq α] : List α → List α → List α
  | acc, [] => acc
  | acc, x :: xs => keysOf (if x ∈ acc then acc else acc ++ [x]) xs
theorem keysOf_in {α : Type} [DecidableEq α] {x : α} {acc xs : List α} (h : x ∈ acc) : keysOf acc (x :: xs) = keysOf acc xs := by
  show keysOf (if x ∈ acc then acc else acc ++ [x]) xs = _
  rw [if_pos h]
theorem keysOf_out {α : Type} [DecidableEq α] {x : α} {acc xs : List α} (h : x ∉ acc) : keysOf acc (x :: xs) = keysOf (acc ++ [x]) xs := by
  show keysOf (if x ∈ acc then acc else acc ++ [x]) xs = _
  rw [if_neg h]
theorem keysOf_mem {α : Type} [DecidableEq α] {y : α} : ∀ {acc xs : List α}, y ∈ keysOf acc xs ↔ y ∈ acc ∨ y ∈ xs
  | acc, [] => by simp [keysOf]
  | acc, x :: xs => by
    unfold keysOf
    rw [keysOf_mem]
    split
    · rename_i h
      rw [List.mem_cons]
      constructor
      · rintro (z | z)
        · exact .inl z
        · exact .inr (.inr z)
      · rintro (z | z | z)
        · exact .inl z
        · subst z; exact .inl h
        · exact .inr z
    · rw [List.mem_append, List.mem_singleton, List.mem_cons, or_assoc]
theorem keysOf_nd {α : Type} [DecidableEq α] : ∀ {acc xs : List α}, acc.Nodup → (keysOf acc xs).Nodup
  | acc, [], h => h
  | acc, x :: xs, h => by
    unfold keysOf
    refine keysOf_nd ?_
    split
    · exact h
    · rename_i hx
      rw [List.nodup_append]
      refine ⟨h, by simp, fun a ha b hb e => ?_⟩
      rw [List.mem_singleton] at hb
      subst hb
      subst e
      exact hx ha
theorem keysOf_len {α : Type} [DecidableEq α] : ∀ {acc xs : List α}, (keysOf acc xs).length ≤ acc.length + xs.length
  | acc, [] => by simp [keysOf]
  | acc, x :: xs => by
    unfold keysOf
    have := keysOf_len (acc := if x ∈ acc then acc else acc ++ [x]) (xs := xs)
    refine Nat.le_trans this ?_
    split <;> simp <;> omega
theorem put_keys_in {acc : List (Key × D)} {k : Key} {d : D} (h : k ∈ acc.map (·.1)) : (putKD acc k d).map (·.1) = acc.map (·.1) := by
  have : (acc.any fun kv => decide (kv.1 = k)) = true := by
    obtain ⟨p, hp, e⟩ := List.mem_map.mp h
    exact List.any_eq_true.mpr ⟨p, hp, decide_eq_true e⟩
  unfold putKD
  rw [if_pos this, List.map_map]
  apply List.map_congr_left
  intro p _
  dsimp only [Function.comp]
  split
  · rename_i e; exact e.symm ▸ rfl
  · rfl
theorem put_keys_out {acc : List (Key × D)} {k : Key} {d : D} (h : k ∉ acc.map (·.1)) : (putKD acc k d).map (·.1) = acc.map (·.1) ++ [k] := by
  have : ¬ (acc.any fun kv => decide (kv.1 = k)) = true := fun z => by
    obtain ⟨p, hp, e⟩ := List.any_eq_true.mp z
    exact h (List.mem_map.mpr ⟨p, hp, of_decide_eq_true e⟩)
  unfold putKD
  rw [if_neg this, List.map_append]
  rfl
theorem put_len (acc : List (Key × D)) (k : Key) (d : D) : (putKD acc k d).length ≤ acc.length + 1 := by
  unfold putKD
  split
  · rw [List.length_map]; omega
  · rw [List.length_append]; simp
/-- {f(x): v for x in xs}: its keys -/
theorem compDA_keys {α : Type} {i : Nat} {fk fv : Env → Rs D} {γ : Env} {g : α → D} (kf : α → Key) (z : α → D) : ∀ {xs : List α} {acc : List (Key × D)}, acc.length + xs.length ≤ LIM →
    (∀ x ∈ xs, fk (γ.set i (some (g x))) = .ok (kD (kf x)) ∧ fv (γ.set i (some (g x))) = .ok (z x)) →
    ∃ es, compDA (tgN i) tsYes fk fv (xs.map g) γ acc = .ok es ∧ es.map (·.1) = keysOf (acc.map (·.1)) (xs.map kf)
  | [], acc, _, _ => ⟨acc, rfl, rfl⟩
  | x :: xs, acc, hl, h => by
    obtain ⟨h1, h2⟩ := h x List.mem_cons_self
    have hlen := put_len acc (kf x) (z x)
    have ko : keyO (kD (kf x)) = some (kf x) := by cases kf x <;> rfl
    rw [List.length_cons] at hl
    obtain ⟨es, e1, e2⟩ := compDA_keys (g := g) kf z (xs := xs) (acc := putKD acc (kf x) (z x)) (by omega) fun y hy => h y (List.mem_cons_of_mem _ hy)
    refine ⟨es, ?_, ?_⟩
    · rw [List.map_cons]
      unfold compDA
      dsimp only [tgN]
      rw [tsYes_eq, noEr_ok, Rs.bind_ok, if_pos rfl, h1, noEr_ok, Rs.bind_ok, h2, noEr_ok, Rs.bind_ok, ko]
      dsimp only
      rw [if_pos (by omega)]
      exact e1
    · rw [e2, List.map_cons]
      by_cases hm : kf x ∈ acc.map (·.1)
      · rw [put_keys_in hm, keysOf_in hm]
      · rw [put_keys_out hm, keysOf_out hm]
theorem isRol_dic (es : List (Key × D)) : isRol (es.map fun q => (kD q.1, q.2)) = false := by
  match es with
  | [] => rfl
  | [(k, d)] => cases k <;> rfl
  | (k, d) :: b :: r => cases k <;> rfl
theorem lenD_dic (es : List (Key × D)) : lenD [dicD es] = some (.int (es.length : Nat)) := by
  have h := isRol_dic es
  unfold dicD
  match es, h with
  | [], _ => rfl
  | [(k, d)], h => cases k <;> rfl
  | (k, d) :: b :: r, h => cases k <;> (simp [lenD, isRol])
/-- len({f(x): v for x in xs}) -/
theorem compDR_len {α : Type} {i : Nat} {fk fv : Env → Rs D} {γ : Env} {xs : List α} {g : α → D} (kf : α → Key) (z : α → D) (hl : xs.length ≤ LIM) (h : ∀ x ∈ xs, fk ((γ.set i none).set i (some (g x))) = .ok (kD (kf x)) ∧ fv ((γ.set i none).set i (some (g x))) = .ok (z x)) :
    ∃ es, compDR [i] (tgN i) tsYes fk fv (xs.map g) γ = .ok (dicD es) ∧ es.length = (keysOf [] (xs.map kf)).length := by
  obtain ⟨es, e1, e2⟩ := compDA_keys (i := i) (γ := γ.set i none) (g := g) kf z (xs := xs) (acc := []) (by simpa using hl) h
  refine ⟨es, ?_, by rw [← List.length_map (f := (·.1)), e2]; rfl⟩
  unfold compDR
  rw [show wipeE γ [i] = γ.set i none from rfl, e1]
end DL
set_option Elab.async false
set_option linter.all false
set_option maxRecDepth 100000
set_option maxHeartbeats 1000000
/-! Encodings: typed values as data, and how the machine works on them. -/
namespace DL
open PySem PySem.Spec PyProof.Rows L2

class PE (α : Type) where
  enc : α → D
  dep : Nat
  dflt : α
  ok : ∀ a, Ok dep (enc a)
  eqv : ∀ a b, PyData.eqv (enc a) (enc b) = true ↔ a = b
def E {α : Type} [PE α] (a : α) : D := PE.enc a
def Ls {α : Type} [PE α] (xs : List α) : List D := xs.map E
def L {α : Type} [PE α] (xs : List α) : D := .list (Ls xs)
theorem Ls_def {α : Type} [PE α] (xs : List α) : Ls xs = xs.map E := rfl
theorem L_def {α : Type} [PE α] (xs : List α) : L xs = .list (xs.map E) := rfl
/-- a tuple of any length -/
structure Tp (α : Type) where
  l : List α
deriving DecidableEq

theorem eqv_map {α : Type} [PE α] : ∀ (a b : List α), PyData.eqvAll (a.map PE.enc) (b.map PE.enc) = true ↔ a = b
  | [], [] => by simp [PyData.eqvAll]
  | [], _ :: _ => by simp [PyData.eqvAll]
  | _ :: _, [] => by simp [PyData.eqvAll]
  | x :: a, y :: b => by
    have h1 := eqv_map a b
    have h2 := PE.eqv x y
    simp [PyData.eqvAll, h1, h2]
theorem ok_maps {α : Type} [PE α] (a : List α) : ∀ d ∈ a.map (PE.enc : α → D), Ok (PE.dep α) d := fun d hd => by
  obtain ⟨x, _, rfl⟩ := List.mem_map.mp hd
  exact PE.ok x
instance : PE Int := ⟨.int, 0, 0, fun _ => ok_int _ _, fun a b => by simp [PyData.eqv]⟩
instance : PE Nat := ⟨fun n => .int (n : Int), 0, 0, fun _ => ok_int _ _, fun a b => by simp [PyData.eqv]; omega⟩
instance : PE Bool := ⟨.bool, 0, false, fun _ => ok_bool _ _, fun a b => by simp [PyData.eqv]⟩
instance {α : Type} [PE α] : PE (List α) := ⟨fun xs => .list (xs.map PE.enc), PE.dep α + 1, [], fun a => ok_list (ok_maps a), fun a b => by
  show PyData.eqv _ _ = true ↔ _
  unfold PyData.eqv
  exact eqv_map a b⟩
instance {α : Type} [PE α] : PE (Tp α) := ⟨fun xs => .tuple (xs.l.map PE.enc), PE.dep α + 1, ⟨[]⟩, fun a => ok_tuple_iff.mpr (ok_maps a.l), fun a b => by
  show PyData.eqv _ _ = true ↔ _
  unfold PyData.eqv
  rw [eqv_map a.l b.l]
  cases a; cases b; simp⟩
instance {α β : Type} [PE α] [PE β] : PE (α × β) := ⟨fun p => .tuple [PE.enc p.1, PE.enc p.2], max (PE.dep α) (PE.dep β) + 1, (PE.dflt, PE.dflt), fun a => ok_tuple_iff.mpr fun d hd => by
  simp only [List.mem_cons, List.not_mem_nil, or_false] at hd
  rcases hd with rfl | rfl
  · exact (PE.ok a.1).mono (Nat.le_max_left _ _)
  · exact (PE.ok a.2).mono (Nat.le_max_right _ _), fun a b => by
  have h1 := PE.eqv a.1 b.1
  have h2 := PE.eqv a.2 b.2
  show PyData.eqv _ _ = true ↔ _
  simp [PyData.eqv, PyData.eqvAll, h1, h2, Prod.ext_iff]⟩
/-- never None -/
class PN (α : Type) [PE α] : Prop where
  nn : ∀ a : α, PyData.eqv .none (PE.enc a) = false ∧ PyData.eqv (PE.enc a) .none = false
instance : PN Int := ⟨fun a => ⟨rfl, rfl⟩⟩
instance : PN Nat := ⟨fun a => ⟨rfl, rfl⟩⟩
instance : PN Bool := ⟨fun a => ⟨rfl, rfl⟩⟩
instance {α : Type} [PE α] : PN (List α) := ⟨fun a => ⟨rfl, rfl⟩⟩
instance {α : Type} [PE α] : PN (Tp α) := ⟨fun a => ⟨rfl, rfl⟩⟩
instance {α β : Type} [PE α] [PE β] : PN (α × β) := ⟨fun a => ⟨rfl, rfl⟩⟩
def encO {α : Type} [PE α] : Option α → D
  | none => .none
  | some a => PE.enc a
instance {α : Type} [PE α] [PN α] : PE (Option α) := ⟨encO, PE.dep α, none, fun a => by
  cases a with
  | none => exact ok_none _
  | some a => exact PE.ok a, fun a b => by
  cases a with
  | none => cases b with
    | none => simp [encO, PyData.eqv]
    | some b => simp [encO, (PN.nn b).1]
  | some a => cases b with
    | none => simp [encO, (PN.nn a).2]
    | some b => simp [encO, PE.eqv]⟩

/-! ### normal forms -/
section
variable {α β : Type} [PE α] [PE β]
@[simp] theorem E_int (i : Int) : E i = .int i := Eq.trans (Eq.refl _) rfl
@[simp] theorem E_nat (i : Nat) : E i = .int (i : Int) := Eq.trans (Eq.refl _) rfl
@[simp] theorem E_bool (i : Bool) : E i = .bool i := Eq.trans (Eq.refl _) rfl
@[simp] theorem E_list (xs : List α) : E xs = L xs := Eq.trans (Eq.refl _) rfl
@[simp] theorem E_tp (xs : List α) : E (⟨xs⟩ : Tp α) = .tuple (Ls xs) := Eq.trans (Eq.refl _) rfl
@[simp] theorem E_pair (a : α) (b : β) : E (a, b) = .tuple [E a, E b] := Eq.trans (Eq.refl _) rfl
@[simp] theorem E_none [PN α] : E (none : Option α) = .none := Eq.trans (Eq.refl _) rfl
@[simp] theorem E_some [PN α] (a : α) : E (some a) = E a := Eq.trans (Eq.refl _) rfl
theorem E_pair' (p : α × β) : E p = .tuple [E p.1, E p.2] := Eq.trans (Eq.refl _) rfl
@[simp] theorem list_Ls (xs : List α) : PyData.list (Ls xs) = L xs := Eq.trans (Eq.refl _) rfl
@[simp] theorem Ls_nil : Ls ([] : List α) = [] := Eq.trans (Eq.refl _) rfl
@[simp] theorem L_nil : L ([] : List α) = .list [] := Eq.trans (Eq.refl _) rfl
@[simp] theorem Ls_length (xs : List α) : (Ls xs).length = xs.length := by simp [Ls]
@[simp] theorem Ls_append (xs ys : List α) : Ls xs ++ Ls ys = Ls (xs ++ ys) := by simp [Ls]
theorem Ls_snoc (xs : List α) (a : α) : Ls xs ++ [E a] = Ls (xs ++ [a]) := by simp [Ls]
@[simp] theorem Ls_snoc_int (xs : List Int) (a : Int) : Ls xs ++ [.int a] = Ls (xs ++ [a]) := Ls_snoc _ _
@[simp] theorem Ls_snoc_nat (xs : List Nat) (a : Nat) : Ls xs ++ [.int (a : Int)] = Ls (xs ++ [a]) := Ls_snoc _ _
@[simp] theorem Ls_snoc_bool (xs : List Bool) (a : Bool) : Ls xs ++ [.bool a] = Ls (xs ++ [a]) := Ls_snoc _ _
@[simp] theorem Ls_snoc_list (xs : List (List α)) (a : List α) : Ls xs ++ [L a] = Ls (xs ++ [a]) := Ls_snoc _ _
@[simp] theorem Ls_snoc_nil (xs : List (List α)) : Ls xs ++ [.list []] = Ls (xs ++ [([] : List α)]) := Ls_snoc xs ([] : List α)
@[simp] theorem Ls_snoc_tp (xs : List (Tp α)) (a : List α) : Ls xs ++ [.tuple (Ls a)] = Ls (xs ++ [⟨a⟩]) := Ls_snoc _ _
@[simp] theorem list1_int (a : Int) : PyData.list [.int a] = L [a] := Eq.trans (Eq.refl _) rfl
@[simp] theorem list2_int (a b : Int) : PyData.list [.int a, .int b] = L [a, b] := Eq.trans (Eq.refl _) rfl
@[simp] theorem list3_int (a b c : Int) : PyData.list [.int a, .int b, .int c] = L [a, b, c] := Eq.trans (Eq.refl _) rfl
@[simp] theorem list4_int (a b c d : Int) : PyData.list [.int a, .int b, .int c, .int d] = L [a, b, c, d] := Eq.trans (Eq.refl _) rfl
@[simp] theorem list5_int (a b c d e : Int) : PyData.list [.int a, .int b, .int c, .int d, .int e] = L [a, b, c, d, e] := Eq.trans (Eq.refl _) rfl
@[simp] theorem list6_int (a b c d e f : Int) : PyData.list [.int a, .int b, .int c, .int d, .int e, .int f] = L [a, b, c, d, e, f] := Eq.trans (Eq.refl _) rfl
@[simp] theorem list1_bool (a : Bool) : PyData.list [.bool a] = L [a] := Eq.trans (Eq.refl _) rfl
@[simp] theorem list1_list (a : List α) : PyData.list [L a] = L [a] := Eq.trans (Eq.refl _) rfl
theorem list_nil_eq : PyData.list [] = L ([] : List α) := rfl

/-! ### equality -/
variable (α) in
@[simp] theorem dep_list : PE.dep (List α) = PE.dep α + 1 := rfl
variable (α) in
@[simp] theorem dep_tp : PE.dep (Tp α) = PE.dep α + 1 := rfl
variable (α β) in
@[simp] theorem dep_prod : PE.dep (α × β) = max (PE.dep α) (PE.dep β) + 1 := rfl
variable (α) in
@[simp] theorem dep_opt [PN α] : PE.dep (Option α) = PE.dep α := rfl
@[simp] theorem dep_int : PE.dep Int = 0 := rfl
@[simp] theorem dep_nat : PE.dep Nat = 0 := rfl
@[simp] theorem dep_bool : PE.dep Bool = 0 := rfl
@[simp] theorem ok_L {k : Nat} (xs : List α) (h : PE.dep α + 1 ≤ k) : Ok k (L xs) := (PE.ok xs).mono h
@[simp] theorem ok_Ls {k : Nat} (xs : List α) (h : PE.dep α + 1 ≤ k) : Ok k (.tuple (Ls xs)) := (PE.ok (⟨xs⟩ : Tp α)).mono h
theorem ok_E {k : Nat} (x : α) (h : PE.dep α ≤ k) : Ok k (E x) := (PE.ok x).mono h
@[simp] theorem ok_nil {k : Nat} (h : 1 ≤ k) : Ok k (.list []) := (PE.ok ([] : List Int)).mono h
theorem eqv_E [DecidableEq α] (a b : α) : PyData.eqv (E a) (E b) = decide (a = b) := by
  rw [Bool.eq_iff_iff, decide_eq_true_iff]
  exact PE.eqv a b
@[simp] theorem eqv_L [DecidableEq α] (a b : List α) : PyData.eqv (L a) (L b) = decide (a = b) := eqv_E a b
@[simp] theorem eqv_Ls [DecidableEq α] (a b : List α) : PyData.eqv (.tuple (Ls a)) (.tuple (Ls b)) = decide (a = b) := by
  have := eqv_E (⟨a⟩ : Tp α) ⟨b⟩
  rw [E_tp, E_tp] at this
  rw [this]
  simp
@[simp] theorem eqv_L_nil [DecidableEq α] (a : List α) : PyData.eqv (L a) (.list []) = decide (a = []) := eqv_L a []
@[simp] theorem eqv_nil_L [DecidableEq α] (a : List α) : PyData.eqv (.list []) (L a) = decide (a = []) := by
  rw [show PyData.list [] = L ([] : List α) from rfl, eqv_L]
  simp [eq_comm]
@[simp] theorem eqv_int (a b : Int) : PyData.eqv (.int a) (.int b) = decide (a = b) := eqv_E a b
@[simp] theorem eqv_bool (a b : Bool) : PyData.eqv (.bool a) (.bool b) = decide (a = b) := eqv_E a b
@[simp] theorem eqv_str (a b : Str) : PyData.eqv (.str a) (.str b) = decide (a = b) := by
  unfold PyData.eqv
  exact Bool.eq_iff_iff.mpr (by simp)
@[simp] theorem eqv_none : PyData.eqv .none .none = true := rfl
@[simp] theorem eqv_none_int (a : Int) : PyData.eqv .none (.int a) = false := rfl
@[simp] theorem eqv_int_none (a : Int) : PyData.eqv (.int a) .none = false := rfl
@[simp] theorem eqv_none_L (a : List α) : PyData.eqv .none (L a) = false := rfl
@[simp] theorem eqv_L_none (a : List α) : PyData.eqv (L a) .none = false := rfl
@[simp] theorem eqv_none_tuple (a : List D) : PyData.eqv .none (.tuple a) = false := rfl
@[simp] theorem eqv_tuple_none (a : List D) : PyData.eqv (.tuple a) .none = false := rfl
@[simp] theorem eqv_L_int (a : List α) (i : Int) : PyData.eqv (L a) (.int i) = false := rfl
@[simp] theorem eqv_int_L (a : List α) (i : Int) : PyData.eqv (.int i) (L a) = false := rfl
@[simp] theorem eqv_tuple (a b : List D) : PyData.eqv (.tuple a) (.tuple b) = PyData.eqvAll a b := by
  conv => lhs; unfold PyData.eqv
@[simp] theorem eqvAll_nil : PyData.eqvAll [] [] = true := rfl
@[simp] theorem eqvAll_cons (x y : D) (a b : List D) : PyData.eqvAll (x :: a) (y :: b) = (PyData.eqv x y && PyData.eqvAll a b) := rfl
@[simp] theorem eqvAll_nc (y : D) (b : List D) : PyData.eqvAll [] (y :: b) = false := rfl
@[simp] theorem eqvAll_cn (y : D) (b : List D) : PyData.eqvAll (y :: b) [] = false := rfl
@[simp] theorem eqD_ok {d e : D} (h1 : Ok 64 d) (h2 : Ok 64 e) : eqD d e = some (.bool (PyData.eqv d e)) := eqD_eqv h1 h2
@[simp] theorem neD_ok {d e : D} (h1 : Ok 64 d) (h2 : Ok 64 e) : neD d e = some (.bool (!PyData.eqv d e)) := neD_eqv h1 h2
theorem strl_inj {a b : String} : Str.ofString a = Str.ofString b ↔ a = b := by
  constructor
  · intro h
    rw [Str.ofString_eq_toList, Str.ofString_eq_toList] at h
    injection h with h
    have h2 : a.toList.map Char.toNat = b.toList.map Char.toNat := by simpa using h
    have h3 : a.toList = b.toList := (List.map_inj_right fun x y e => by
      rw [← Char.ofNat_toNat x, ← Char.ofNat_toNat y, e]).mp h2
    exact String.toList_inj.mp h3
  · intro h; rw [h]
@[simp] theorem strl_eq (a b : String) : decide (Str.ofString a = Str.ofString b) = decide (a = b) := by
  rw [Bool.eq_iff_iff, decide_eq_true_iff, decide_eq_true_iff]
  exact strl_inj

@[simp] theorem dflt_int : (PE.dflt : Int) = 0 := rfl
@[simp] theorem dflt_nat : (PE.dflt : Nat) = 0 := rfl
@[simp] theorem dflt_bool : (PE.dflt : Bool) = false := rfl
@[simp] theorem dflt_list : (PE.dflt : List α) = [] := rfl
@[simp] theorem dflt_pair : (PE.dflt : α × β) = (PE.dflt, PE.dflt) := rfl

/-! ### operations -/
/-- the item at a place -/
def gt (xs : List α) (i : Int) : α := xs.getD (if i < 0 then (i + xs.length).toNat else i.toNat) PE.dflt
theorem gt_nat (xs : List α) (k : Nat) : gt xs (k : Int) = xs.getD k PE.dflt := by
  unfold gt
  rw [if_neg (by omega)]
  simp
theorem gt_get (xs : List α) (k : Nat) (h : k < xs.length) : gt xs (k : Int) = xs[k] := by
  rw [gt_nat]
  simp [h]
theorem gt_int (xs : List α) (i : Int) (h0 : 0 ≤ i) : gt xs i = xs.getD i.toNat PE.dflt := by
  unfold gt
  rw [if_neg (by omega)]
theorem gt_mem (xs : List α) (i : Int) (h : -(xs.length : Int) ≤ i ∧ i < xs.length) : gt xs i ∈ xs := by
  unfold gt
  have : (if i < 0 then (i + xs.length).toNat else i.toNat) < xs.length := by split <;> omega
  rw [List.getD_eq_getElem?_getD, List.getElem?_eq_getElem this]
  exact List.getElem_mem _
theorem ixD_L (xs : List α) (i : Int) (h : -(xs.length : Int) ≤ i ∧ i < xs.length) : ixD (L xs) (.int i) = some (E (gt xs i)) := by
  show L2.atI (Ls xs) i = _
  unfold L2.atI L2.ixN gt
  rw [Ls_length]
  by_cases h0 : i < 0
  · have h2 : (i + xs.length).toNat < xs.length := by omega
    rw [if_neg (by omega), if_pos h.1, if_pos h0]
    simp [Ls, h2]
  · have h2 : i.toNat < xs.length := by omega
    rw [if_pos (by omega), if_pos h.2, if_neg h0]
    simp [Ls, h2]
theorem putL_E (xs : List α) (a : α) (i : Int) (h : 0 ≤ i ∧ i < xs.length) : putL (Ls xs) (E a) (.int i) = some (Ls (xs.set i.toNat a)) := by
  obtain ⟨k, rfl⟩ := Int.eq_ofNat_of_zero_le h.1
  have := putL_nat (ds := Ls xs) (d := E a) (i := k) (by rw [Ls_length]; omega)
  rw [this]
  simp [Ls, List.map_set]
theorem putL_int (xs : List Int) (a i : Int) (h : 0 ≤ i ∧ i < xs.length) : putL (Ls xs) (.int a) (.int i) = some (Ls (xs.set i.toNat a)) := putL_E xs a i h
theorem putL_natE (xs : List Nat) (a : Nat) (i : Int) (h : 0 ≤ i ∧ i < xs.length) : putL (Ls xs) (.int (a : Int)) (.int i) = some (Ls (xs.set i.toNat a)) := putL_E xs a i h
theorem putL_bool (xs : List Bool) (a : Bool) (i : Int) (h : 0 ≤ i ∧ i < xs.length) : putL (Ls xs) (.bool a) (.int i) = some (Ls (xs.set i.toNat a)) := putL_E xs a i h
theorem putL_list (xs : List (List α)) (a : List α) (i : Int) (h : 0 ≤ i ∧ i < xs.length) : putL (Ls xs) (L a) (.int i) = some (Ls (xs.set i.toNat a)) := putL_E xs a i h
@[simp] theorem lenD_L (xs : List α) : lenD [L xs] = some (.int (xs.length : Int)) := by
  show some (PyData.int ((Ls xs).length : Nat)) = _
  rw [Ls_length]
@[simp] theorem lstO_L (xs : List α) : lstO (L xs) = some (Ls xs) := Eq.trans (Eq.refl _) rfl
@[simp] theorem lstD_L (xs : List α) : lstD [L xs] = some (Ls xs) := Eq.trans (Eq.refl _) rfl
@[simp] theorem plO_L (xs : List α) : plO (L xs) = some (Ls xs) := Eq.trans (Eq.refl _) rfl
@[simp] theorem tplD_L (xs : List α) : tplD [L xs] = some (.tuple (Ls xs)) := Eq.trans (Eq.refl _) rfl
@[simp] theorem tplD_tuple (xs : List D) : tplD [.tuple xs] = some (.tuple xs) := Eq.trans (Eq.refl _) rfl
@[simp] theorem lstD_tuple (xs : List D) : lstD [.tuple xs] = some xs := Eq.trans (Eq.refl _) rfl
@[simp] theorem lstO_nil : lstO (.list []) = some [] := Eq.trans (Eq.refl _) rfl
@[simp] theorem lsE_L (xs : List α) (γ : Env) : lsE (some (L xs) :: γ) 0 = .ok (Ls xs) := Eq.trans (Eq.refl _) rfl
@[simp] theorem truD_L (xs : List α) : truD (L xs) = some (!xs.isEmpty) := by
  show some (!(Ls xs).isEmpty) = _
  cases xs <;> rfl
@[simp] theorem srtD_L (xs : List Int) : srtD [L xs] = some (Ls (srtI xs)) := srtD_int xs
@[simp] theorem srtD_nil : srtD [.list []] = some [] := Eq.trans (Eq.refl _) rfl
theorem Ls_ints (xs : List Int) : Ls xs = xs.map PyData.int := rfl
@[simp] theorem sumD_L (xs : List Int) : sumD [L xs] = some (.int xs.sum) := by
  show (intsO (Ls xs)).bind _ = _
  rw [Ls_ints, intsO_map]
  rfl
theorem maxD_L (xs : List Int) (h : xs ≠ []) : maxD [L xs] = some (.int (maxI xs)) := by
  show (intsO (Ls xs)).bind _ = _
  rw [Ls_ints, intsO_map]
  cases xs with
  | nil => exact absurd rfl h
  | cons a r => rfl
theorem minD_L (xs : List Int) (h : xs ≠ []) : minD [L xs] = some (.int (minI xs)) := by
  show (intsO (Ls xs)).bind _ = _
  rw [Ls_ints, intsO_map]
  cases xs with
  | nil => exact absurd rfl h
  | cons a r => rfl
@[simp] theorem maxD_2 (i j : Int) : maxD [.int i, .int j] = some (.int (if j > i then j else i)) := Eq.trans (Eq.refl _) rfl
@[simp] theorem minD_2 (i j : Int) : minD [.int i, .int j] = some (.int (if j < i then j else i)) := Eq.trans (Eq.refl _) rfl
theorem addD_L (a b : List α) (h : a.length + b.length ≤ 1000000) : addD (L a) (L b) = some (L (a ++ b)) := by
  rw [show L (a ++ b) = .list (Ls a ++ Ls b) by rw [Ls_append]; rfl]
  exact if_pos (by rw [Ls_length, Ls_length]; exact h)
theorem catD_L (a b : List α) (h : a.length + b.length ≤ 1000000) : catD (L a) (L b) = some (Ls (a ++ b)) := by
  rw [← Ls_append]
  exact if_pos (by rw [Ls_length, Ls_length]; exact h)
theorem addD_nil (a : List α) (h : a.length ≤ 1000000) : addD (L a) (.list []) = some (L a) := by
  have := addD_L a [] (by simpa using h)
  simpa using this
theorem addD_nil' (a : List α) (h : a.length ≤ 1000000) : addD (.list []) (L a) = some (L a) := by
  have := addD_L [] a (by simpa using h)
  simpa using this
theorem repD_1 (d : D) (k : Int) (h : 0 ≤ k ∧ k ≤ 1000000) : repD [d] (.int k) = some (List.replicate k.toNat d) := by
  obtain ⟨n, rfl⟩ := Int.eq_ofNat_of_zero_le h.1
  rw [repD_nat (by unfold LIM; omega) (by simp [LIM]; omega), rep_one]
  simp
theorem rep_int (k : Nat) (a : Int) : List.replicate k (PyData.int a) = Ls (List.replicate k a) := by simp [Ls]
theorem rep_bool (k : Nat) (a : Bool) : List.replicate k (PyData.bool a) = Ls (List.replicate k a) := by simp [Ls]
@[simp] theorem zipD_L (a : List α) (b : List β) : zipD [L a, L b] = some (Ls (a.zip b)) := by
  show some (((Ls a).zip (Ls b)).map _) = _
  unfold Ls
  rw [List.zip_map, List.map_map]
  rfl
@[simp] theorem revD_L (a : List α) : revD [L a] = some (Ls a.reverse) := by
  show some (Ls a).reverse = _
  simp [Ls]
theorem rg1_E (n : Int) (h : -1000000000000000000 ≤ n ∧ n ≤ 1000000000000000000) : rg1 [.int n] = some (Ls (List.range n.toNat)) := by
  show (if -RLIM ≤ n ∧ n ≤ RLIM then some (rgD 0 n) else none) = _
  rw [if_pos (by unfold RLIM; omega)]
  unfold rgD Ls
  simp
/-- the ints from a on below b -/
def rgF (a b : Int) : List Int := (List.range (b - a).toNat).map fun k : Nat => a + (k : Int)
theorem rg2_E (a n : Int) (h : -1000000000000000000 ≤ a ∧ a ≤ 1000000000000000000) (h2 : -1000000000000000000 ≤ n ∧ n ≤ 1000000000000000000) : rg2 [.int a, .int n] = some (Ls (rgF a n)) := by
  show (if (-RLIM ≤ a ∧ a ≤ RLIM) ∧ (-RLIM ≤ n ∧ n ≤ RLIM) then some (rgD a n) else none) = _
  rw [if_pos (by unfold RLIM; omega)]
  unfold rgD Ls rgF
  rw [List.map_map]
  rfl
theorem rgL1_E (n : Int) (h : 0 ≤ n ∧ n ≤ 1000000) : rgL1 (.int n) = some (Ls (List.range n.toNat)) := by
  obtain ⟨m, rfl⟩ := Int.eq_ofNat_of_zero_le h.1
  rw [rgL1_nat (by unfold LIM; omega)]
  rfl
theorem cut_E (xs : List α) (a b : Option Int) : cutD (Ls xs) a b = Ls ((xs.drop (HT.sIx xs.length 0 a)).take (HT.sIx xs.length xs.length b - HT.sIx xs.length 0 a)) := by
  unfold cutD
  rw [Ls_length]
  unfold Ls
  rw [← List.map_drop, ← List.map_take]
theorem cutD_toE (xs : List α) (k : Int) (h : 0 ≤ k) : cutD (Ls xs) none (some k) = Ls (xs.take k.toNat) := by
  obtain ⟨m, rfl⟩ := Int.eq_ofNat_of_zero_le h
  rw [cutD_to]
  simp [Ls, List.map_take]
theorem cutD_fromE (xs : List α) (k : Int) (h : 0 ≤ k) : cutD (Ls xs) (some k) none = Ls (xs.drop k.toNat) := by
  obtain ⟨m, rfl⟩ := Int.eq_ofNat_of_zero_le h
  rw [cutD_from]
  simp [Ls, List.map_drop]
@[simp] theorem cutAD_L (xs : List α) (a b : Option Int) : cutAD a b (L xs) = some (.list (cutD (Ls xs) a b)) := Eq.trans (Eq.refl _) rfl
@[simp] theorem cutLD_L (xs : List α) (a b : Option Int) : cutLD a b (L xs) = some (cutD (Ls xs) a b) := Eq.trans (Eq.refl _) rfl
theorem shaped_E (a : α) (h : PE.dep α ≤ 64) : SeqAt.shaped (E a) = true := (ok_E a h).shaped
theorem inD_E [DecidableEq α] (neg : Bool) (a : α) (xs : List α) (h : PE.dep α + 1 ≤ 64) : inD neg (E a) (L xs) = some (.bool (neg != decide (a ∈ xs))) := by
  show (if _ then _ else _) = _
  rw [if_pos ⟨shaped_E a (by omega), shaped_E xs h⟩]
  congr 3
  unfold Ls
  rw [List.any_map]
  rw [Bool.eq_iff_iff, List.any_eq_true, decide_eq_true_iff]
  constructor
  · rintro ⟨x, hx, e⟩
    have := (PE.eqv x a).mp e
    subst this
    exact hx
  · intro hm
    exact ⟨a, hm, (PE.eqv a a).mpr rfl⟩
@[simp] theorem inD_int (neg : Bool) (a : Int) (xs : List Int) : inD neg (.int a) (L xs) = some (.bool (neg != decide (a ∈ xs))) := inD_E neg a xs (by decide)
@[simp] theorem inD_natE (neg : Bool) (a : Nat) (xs : List Nat) : inD neg (.int (a : Int)) (L xs) = some (.bool (neg != decide (a ∈ xs))) := inD_E neg a xs (by decide)
@[simp] theorem inD_list (neg : Bool) (a : List Int) (xs : List (List Int)) : inD neg (L a) (L xs) = some (.bool (neg != decide (a ∈ xs))) := by
  have h := inD_E neg a xs (by decide)
  rw [E_list] at h
  rw [h]
  congr 3
  exact decide_eq_decide.mpr Iff.rfl
@[simp] theorem inD_listN (neg : Bool) (a : List Nat) (xs : List (List Nat)) : inD neg (L a) (L xs) = some (.bool (neg != decide (a ∈ xs))) := by
  have h := inD_E neg a xs (by decide)
  rw [E_list] at h
  rw [h]
  congr 3
  exact decide_eq_decide.mpr Iff.rfl
@[simp] theorem inD_bool (neg : Bool) (a : Bool) (xs : List Bool) : inD neg (.bool a) (L xs) = some (.bool (neg != decide (a ∈ xs))) := inD_E neg a xs (by decide)
theorem idxD_E [DecidableEq α] (a : α) (xs : List α) (h : PE.dep α + 1 ≤ 64) (hm : a ∈ xs) : idxD (L xs) [E a] = some (.int (xs.idxOf a : Nat)) := by
  show (if _ then _ else _) = _
  rw [if_pos ⟨shaped_E xs h, shaped_E a (by omega)⟩]
  have : (Ls xs).findIdx? (fun z => PyData.eqv z (E a)) = some (xs.idxOf a) := by
    unfold Ls
    rw [List.findIdx?_map]
    have e : (fun z => PyData.eqv z (E a)) ∘ (E : α → D) = fun z => z == a := by
      funext z
      show PyData.eqv (E z) (E a) = _
      rw [eqv_E]
      rfl
    rw [e, List.findIdx?_eq_some_iff_findIdx_eq]
    exact ⟨List.idxOf_lt_length_of_mem hm, rfl⟩
  rw [this]
  rfl
theorem idxD_int (a : Int) (xs : List Int) (hm : a ∈ xs) : idxD (L xs) [.int a] = some (.int (xs.idxOf a : Nat)) := idxD_E a xs (by decide) hm
theorem idxD_natE (a : Nat) (xs : List Nat) (hm : a ∈ xs) : idxD (L xs) [.int (a : Int)] = some (.int (xs.idxOf a : Nat)) := idxD_E a xs (by decide) hm
@[simp] theorem isNone_int (a : Int) : isNoneD (.int a) = false := Eq.trans (Eq.refl _) rfl
@[simp] theorem isNone_none : isNoneD .none = true := Eq.trans (Eq.refl _) rfl
@[simp] theorem isNone_L (a : List α) : isNoneD (L a) = false := Eq.trans (Eq.refl _) rfl
@[simp] theorem isNone_tuple (a : List D) : isNoneD (.tuple a) = false := Eq.trans (Eq.refl _) rfl
@[simp] theorem isi_bool (b : Bool) : isiD "bool" (.bool b) = some (.bool true) := Eq.trans (Eq.refl _) rfl

/-! ### comprehensions -/
theorem compE {i : Nat} {f : Env → Rs D} {γ : Env} {xs : List α} (y : α → β) (hl : xs.length ≤ 1000000) (h : ∀ x ∈ xs, f ((γ.set i none).set i (some (E x))) = .ok (E (y x))) : compR [i] (tgN i) tsYes f (Ls xs) γ = .ok (Ls (xs.map y)) := by
  have := comp1 (i := i) (γ := γ) (g := (E : α → D)) (fun x => E (y x)) hl h
  rw [Ls, this]
  simp [Ls]
theorem compEF {i : Nat} {c : Env → Rs Bool} {f : Env → Rs D} {γ : Env} {xs : List α} (p : α → Bool) (y : α → β) (hl : xs.length ≤ 1000000) (hc : ∀ x ∈ xs, c ((γ.set i none).set i (some (E x))) = .ok (p x)) (h : ∀ x ∈ xs, p x = true → f ((γ.set i none).set i (some (E x))) = .ok (E (y x))) :
    compR [i] (tgN i) c f (Ls xs) γ = .ok (Ls ((xs.filter p).map y)) := by
  have := comp1F (i := i) (γ := γ) (g := (E : α → D)) p (fun x => E (y x)) hl hc h
  rw [Ls, this]
  simp [Ls]
/-- over pairs -/
theorem compE2 {α' : Type} [PE α'] {i j : Nat} {f : Env → Rs D} {γ : Env} {xs : List (α × α')} (y : α × α' → β) (hl : xs.length ≤ 1000000) (h : ∀ x ∈ xs, f ((((γ.set j none).set i none).set i (some (E x.1))).set j (some (E x.2))) = .ok (E (y x))) :
    compR [i, j] (tgT 2 (tgCons (tgN i) (tgCons (tgN j) tgNil))) tsYes f (Ls xs) γ = .ok (Ls (xs.map y)) := by
  have := compR_map (vs := [i, j]) (t := tgT 2 (tgCons (tgN i) (tgCons (tgN j) tgNil))) (f := f) (γ := γ) (E : α × α' → D) (fun x => E (y x)) hl fun x hx => ⟨_, rfl, h x hx⟩
  rw [Ls, this]
  simp [Ls]
/-! ### loops -/
theorem for_E {t : D → Env → Option Env} {b : Env → Out} {xs : List α} {γ : Env} {o : Out} (hf : forS t b (Ls xs) γ = o) (P : Nat → Env → Prop) (h0 : P 0 γ)
    (step : ∀ (i : Nat) (hi : i < xs.length) γ, P i γ → ∃ γ1, t (E xs[i]) γ = some γ1 ∧ turn (P (i + 1)) (fun _ => False) (b γ1)) : ∃ γ', o = .nx γ' ∧ P xs.length γ' := for_all hf P h0 step
theorem for_ET {t : D → Env → Option Env} {b : Env → Out} {xs : List α} {γ : Env} {o : Out} (hf : forS t b (Ls xs) γ = o) (P : Nat → Env → Prop) (Q : Out → Prop) (h0 : P 0 γ)
    (step : ∀ (i : Nat) (hi : i < xs.length) γ, P i γ → ∃ γ1, t (E xs[i]) γ = some γ1 ∧ turn (P (i + 1)) Q (b γ1)) (fin : ∀ γ, P xs.length γ → Q (.nx γ)) : Q o := for_turns hf P Q h0 step fin
theorem for_R {n : Nat} {t : D → Env → Option Env} {b : Env → Out} {γ : Env} {o : Out} (hf : forS t b (Ls (List.range n)) γ = o) (P : Nat → Env → Prop) (h0 : P 0 γ)
    (step : ∀ (i : Nat) (hi : i < n) γ, P i γ → ∃ γ1, t (.int (i : Int)) γ = some γ1 ∧ turn (P (i + 1)) (fun _ => False) (b γ1)) : ∃ γ', o = .nx γ' ∧ P n γ' := for_rg hf P h0 step
theorem for_RT {n : Nat} {t : D → Env → Option Env} {b : Env → Out} {γ : Env} {o : Out} (hf : forS t b (Ls (List.range n)) γ = o) (P : Nat → Env → Prop) (Q : Out → Prop) (h0 : P 0 γ)
    (step : ∀ (i : Nat) (hi : i < n) γ, P i γ → ∃ γ1, t (.int (i : Int)) γ = some γ1 ∧ turn (P (i + 1)) Q (b γ1)) (fin : ∀ γ, P n γ → Q (.nx γ)) : Q o := for_rgT hf P Q h0 step fin
end
end DL
namespace DL
open PySem PySem.Spec PyProof.Rows L2
section
variable {α β : Type} [PE α] [PE β]
theorem cutD_E2 (xs : List α) (a b : Int) (h : 0 ≤ a ∧ a ≤ b) : cutD (Ls xs) (some a) (some b) = Ls ((xs.drop a.toNat).take (b - a).toNat) := by
  obtain ⟨m, rfl⟩ := Int.eq_ofNat_of_zero_le h.1
  obtain ⟨k, rfl⟩ := Int.eq_ofNat_of_zero_le (Int.le_trans h.1 h.2)
  rw [cut_E, HT.sIx_nat, HT.sIx_nat]
  have e : ((k : Int) - (m : Int)).toNat = k - m := by omega
  rw [e, Int.toNat_natCast]
  congr 1
  by_cases hm : m ≤ xs.length
  · rw [Nat.min_eq_left hm]
    by_cases hk : k ≤ xs.length
    · rw [Nat.min_eq_left hk]
    · rw [Nat.min_eq_right (by omega), List.take_of_length_le (by simp), List.take_of_length_le (by simp; omega)]
  · have h1 : xs.drop m = [] := List.drop_eq_nil_of_le (by omega)
    have h2 : xs.drop (min m xs.length) = [] := List.drop_eq_nil_of_le (by omega)
    rw [h1, h2]
    simp
theorem extS_eq (i : Nat) (fe : Env → Rs (List D)) (γ : Env) : extS i fe γ = liftS ((lsE γ i).bind fun ds => (fe γ).bind fun es => oR (if ds.length + es.length ≤ 1000000 then some (ds ++ es) else none)) γ fun es => .nx (γ.set i (some (.list es))) := rfl
theorem popS_eq (i : Nat) (γ : Env) : popS i γ = liftS ((lsE γ i).bind fun ds => oR (if ds.isEmpty = false then some ds.dropLast else none)) γ fun es => .nx (γ.set i (some (.list es))) := rfl
theorem popSet_eq (i j : Nat) (γ : Env) : popSet i j γ = liftS ((lsE γ i).bind fun ds => oR (ds.getLast?.map fun d => (ds.dropLast, d))) γ fun es => .nx ((γ.set i (some (.list es.1))).set j (some es.2)) := rfl
/-- x.append(e) -/
theorem appS_E (i : Nat) (fe : Env → Rs D) (γ : Env) : appS i fe γ = liftS ((lsE γ i).bind fun ds => (fe γ).bind fun d => oR (if ds.length < 1000000 then some (ds ++ [d]) else none)) γ fun es => .nx (γ.set i (some (.list es))) := rfl
theorem rgF_nat (a b : Nat) : rgF (a : Int) (b : Int) = (List.range' a (b - a)).map fun k : Nat => (k : Int) := by
  unfold rgF
  rw [show ((b : Int) - (a : Int)).toNat = b - a by omega, List.range'_eq_map_range, List.map_map]
  apply List.map_congr_left
  intro k _
  simp
theorem rgF_len (a b : Int) : (rgF a b).length = (b - a).toNat := by simp [rgF]
theorem rgF_get (a b : Int) (i : Nat) (h : i < (rgF a b).length) : (rgF a b)[i] = a + i := by simp [rgF]
theorem rgF_mem (a b x : Int) : x ∈ rgF a b ↔ a ≤ x ∧ x < b := by
  unfold rgF
  rw [List.mem_map]
  constructor
  · rintro ⟨k, hk, rfl⟩
    rw [List.mem_range] at hk
    omega
  · rintro ⟨h1, h2⟩
    exact ⟨(x - a).toNat, by rw [List.mem_range]; omega, by omega⟩
/-- for x in range(a, b) -/
theorem for_F {a b : Int} {t : D → Env → Option Env} {bd : Env → Out} {γ : Env} {o : Out} (hf : forS t bd (Ls (rgF a b)) γ = o) (P : Nat → Env → Prop) (h0 : P 0 γ)
    (step : ∀ (i : Nat) (hi : a + i < b) γ, P i γ → ∃ γ1, t (.int (a + i)) γ = some γ1 ∧ turn (P (i + 1)) (fun _ => False) (bd γ1)) : ∃ γ', o = .nx γ' ∧ P (b - a).toNat γ' := by
  have := for_E hf P h0 fun i hi γ hp => by
    rw [rgF_get]
    exact step i (by rw [rgF_len] at hi; omega) γ hp
  rwa [rgF_len] at this
theorem for_FT {a b : Int} {t : D → Env → Option Env} {bd : Env → Out} {γ : Env} {o : Out} (hf : forS t bd (Ls (rgF a b)) γ = o) (P : Nat → Env → Prop) (Q : Out → Prop) (h0 : P 0 γ)
    (step : ∀ (i : Nat) (hi : a + i < b) γ, P i γ → ∃ γ1, t (.int (a + i)) γ = some γ1 ∧ turn (P (i + 1)) Q (bd γ1)) (fin : ∀ γ, P (b - a).toNat γ → Q (.nx γ)) : Q o :=
  for_ET hf P Q h0 (fun i hi γ hp => by
    rw [rgF_get]
    exact step i (by rw [rgF_len] at hi; omega) γ hp) (by rw [rgF_len]; exact fin)
theorem getLastD_append {γ : Type} {a b : List γ} (x : γ) (h : b ≠ []) : (a ++ b).getLast?.getD x = b.getLast?.getD x := by
  rw [List.getLast?_append]
  cases hb : b.getLast? with
  | none => rw [List.getLast?_eq_none_iff] at hb; exact absurd hb h
  | some z => rfl
theorem ixD_last (xs : List α) (h : xs ≠ []) : ixD (L xs) (.int (-1)) = some (E (xs.getLast?.getD PE.dflt)) := by
  have h0 := List.length_pos_iff.mpr h
  rw [ixD_L xs (-1) (by omega)]
  congr 2
  unfold gt
  rw [if_pos (by decide), List.getLast?_eq_getElem?, List.getD_eq_getElem?_getD, show ((-1 : Int) + xs.length).toNat = xs.length - 1 by omega]
@[simp] theorem outR_no : outR .no = .no := Eq.trans (Eq.refl _) rfl
@[simp] theorem thn_no (g : Env → Out) : thn .no g = .no := Eq.trans (Eq.refl _) rfl
@[simp] theorem ixD_t0 (a : D) (r : List D) : ixD (.tuple (a :: r)) (.int 0) = some a := by
  show L2.atI (a :: r) 0 = _
  unfold L2.atI L2.ixN
  rw [if_pos (by decide), if_pos (by simp <;> omega)]
  rfl
@[simp] theorem ixD_t1 (a b : D) (r : List D) : ixD (.tuple (a :: b :: r)) (.int 1) = some b := by
  show L2.atI (a :: b :: r) 1 = _
  unfold L2.atI L2.ixN
  rw [if_pos (by decide), if_pos (by simp <;> omega)]
  rfl
@[simp] theorem ixD_t2 (a b c : D) (r : List D) : ixD (.tuple (a :: b :: c :: r)) (.int 2) = some c := by
  show L2.atI (a :: b :: c :: r) 2 = _
  unfold L2.atI L2.ixN
  rw [if_pos (by decide), if_pos (by simp <;> omega)]
  rfl
theorem log2_lt {j : Nat} {n : Nat} (h : j < 2 ^ n) (hn : 0 < n) : j.log2 < n := by
  by_cases h0 : j = 0
  · subst h0; simpa using hn
  · exact (Nat.log2_lt h0).mpr h
theorem fdivW_big {i j : Int} (h : 0 < j) (h2 : j.natAbs < 2 ^ 9000) : fdivWD (.int i) (.int j) = some (.int (i / j)) := by
  show (if decide (0 < j ∧ j.natAbs.log2 < 9000) = true then _ else _) = _
  rw [if_pos (decide_eq_true ⟨h, log2_lt h2 (by decide)⟩)]
theorem fdivW_int {i j : Int} (h : 0 < j) (h2 : j < 18446744073709551616) : fdivWD (.int i) (.int j) = some (.int (i / j)) := by
  refine fdivW_big h ?_
  have h3 : j.natAbs < 2 ^ 64 := by omega
  exact Nat.lt_of_lt_of_le h3 (Nat.pow_le_pow_right (by decide) (by decide))
@[simp] theorem revLD_L (xs : List α) : revLD (L xs) = some (Ls xs.reverse) := by
  show some (Ls xs).reverse = _
  simp [Ls]
theorem appInS_eq (i : Nat) (fi fe : Env → Rs D) (γ : Env) : appInS i fi fe γ = liftS ((lsE γ i).bind fun ds => (fi γ).bind fun k => (oR (ixJ ds k)).bind fun t => (fe γ).bind fun d => oR (if t.2.length < 1000000 then some (ds.set t.1 (.list (t.2 ++ [d]))) else none)) γ fun es => .nx (γ.set i (some (.list es))) := rfl
theorem ixJ_L (xs : List (List α)) (i : Int) (h : 0 ≤ i ∧ i < xs.length) : ixJ (Ls xs) (.int i) = some (i.toNat, Ls (xs.getD i.toNat [])) := by
  obtain ⟨k, rfl⟩ := Int.eq_ofNat_of_zero_le h.1
  have hk : k < xs.length := by omega
  show (L2.ixN (Ls xs).length (k : Int)).bind _ = _
  rw [Ls_length, ixN_nat hk]
  simp [Ls, hk, L]
theorem ixJ_last (xs : List (List α)) (h : 0 < xs.length) : ixJ (Ls xs) (.int (-1)) = some (xs.length - 1, Ls (xs.getD (xs.length - 1) [])) := by
  have e : L2.ixN (Ls xs).length (-1) = some (xs.length - 1) := by
    unfold L2.ixN
    rw [Ls_length, if_neg (by decide), if_pos (by omega)]
    congr 1
    omega
  show (L2.ixN (Ls xs).length (-1)).bind _ = _
  rw [e]
  have hk : xs.length - 1 < xs.length := by omega
  simp [Ls, hk, L]
@[simp] theorem Ls_set_L (xs : List (List α)) (i : Nat) (a : List α) : (Ls xs).set i (L a) = Ls (xs.set i a) := by
  unfold Ls
  rw [List.map_set]
  rfl
@[simp] theorem lenLD_L (xs : List α) : lenLD [L xs] = some (.int (xs.length : Int)) := by
  show some (PyData.int ((Ls xs).length : Nat)) = _
  rw [Ls_length]
theorem ixLD_L (xs : List (List α)) (i : Int) (h : -(xs.length : Int) ≤ i ∧ i < xs.length) : ixLD (L xs) (.int i) = some (E (gt xs i)) := ixD_L xs i h
/-- lists of ints that are numbers from 0 on -/
theorem Lc1 (i : Nat) : L [(i : Int)] = L [i] := rfl
theorem Lc (l : List Nat) : L (l.map fun k : Nat => (k : Int)) = L l := by
  unfold L Ls
  rw [List.map_map]
  rfl
theorem szL_Ls (xs : List α) (h : xs.length ≤ 1000000) : szL (Ls xs) = some (Ls xs) := szL_ok (by rw [Ls_length]; exact h)
end
end DL
set_option Elab.async false
set_option linter.all false
set_option maxRecDepth 100000
set_option maxHeartbeats 1000000
/-! The laws' own helpers, on typed values. -/
namespace DL
open PySem PySem.Spec PyProof.Rows L2

/-- what a law sees of its script -/
def Scr (sc : D) (c : Int → Int) : Prop := ∀ k : Int, 0 ≤ k → F__law_cell [sc, .int k] = .ok (.int (c k))
theorem Scr.cell {sc : D} {c : Int → Int} (h : Scr sc c) (k : Int) (hk : 0 ≤ k) : F__law_cell [sc, .int k] = .ok (.int (c k)) := h k hk
theorem scr_of (ns : List Int) : ∃ c, Scr (rolD (ns.map PyData.int)) c := ⟨fun k => cell ns k.toNat, fun k hk => F__law_cell_eq ns k hk⟩
theorem law_of_scr {F : List D → Rs D} (h : ∀ sc c, Scr sc c → F [sc] = .ok (.bool true)) : ∀ ns : List Int, ns.length ≤ 63 → F [rolD (ns.map PyData.int)] = .ok (.bool true) := fun ns _ => by
  obtain ⟨c, hc⟩ := scr_of ns
  exact h _ c hc

/-! draws -/
open Classical in
noncomputable def drw (c : Int) (ls : List Int) : List Int := if h : ∃ ds : List Int, F__law_draw [.int c, iL ls] = .ok (iL ds) ∧ Below ds ls then Classical.choose h else []
theorem drw_spec (c : Int) (ls : List Int) (hl : ∀ l ∈ ls, 0 < l ∧ l < 18446744073709551616) (hn : ls.length ≤ 1000000) : F__law_draw [.int c, L ls] = .ok (L (drw c ls)) ∧ Below (drw c ls) ls := by
  have h := F__law_draw_eq c ls hl hn
  have e : drw c ls = Classical.choose h := dif_pos h
  rw [e]
  exact Classical.choose_spec h
theorem drw_E (c : Int) (ls : List Int) (hl : ∀ l ∈ ls, 0 < l ∧ l < 18446744073709551616) (hn : ls.length ≤ 1000000) : F__law_draw [.int c, L ls] = .ok (L (drw c ls)) := (drw_spec c ls hl hn).1
theorem drw_len (c : Int) (ls : List Int) (hl : ∀ l ∈ ls, 0 < l ∧ l < 18446744073709551616) (hn : ls.length ≤ 1000000) : (drw c ls).length = ls.length := (drw_spec c ls hl hn).2.1
theorem drw_at (c : Int) (ls : List Int) (hl : ∀ l ∈ ls, 0 < l ∧ l < 18446744073709551616) (hn : ls.length ≤ 1000000) (k : Nat) (hk : k < ls.length) : 0 ≤ (drw c ls).getD k 0 ∧ (drw c ls).getD k 0 < ls.getD k 0 := (drw_spec c ls hl hn).2.2 k hk
/-- all limits alike -/
noncomputable def drwR (c : Int) (n : Nat) (m : Int) : List Int := drw c (List.replicate n m)
theorem drwR_E (c : Int) (n : Nat) (m : Int) (hm : 0 < m ∧ m < 18446744073709551616) (hn : n ≤ 1000000) : F__law_draw [.int c, L (List.replicate n m)] = .ok (L (drwR c n m)) :=
  drw_E c _ (fun l hl => by rw [(List.mem_replicate.mp hl).2]; exact hm) (by rw [List.length_replicate]; exact hn)
theorem drwR_len (c : Int) (n : Nat) (m : Int) (hm : 0 < m ∧ m < 18446744073709551616) (hn : n ≤ 1000000) : (drwR c n m).length = n := by
  have := drw_len c (List.replicate n m) (fun l hl => by rw [(List.mem_replicate.mp hl).2]; exact hm) (by rw [List.length_replicate]; exact hn)
  rwa [List.length_replicate] at this
theorem drwR_mem (c : Int) (n : Nat) (m : Int) (hm : 0 < m ∧ m < 18446744073709551616) (hn : n ≤ 1000000) : ∀ x ∈ drwR c n m, 0 ≤ x ∧ x < m := fun x hx => by
  have hl : ∀ l ∈ List.replicate n m, 0 < l ∧ l < 18446744073709551616 := fun l hl => by rw [(List.mem_replicate.mp hl).2]; exact hm
  have hn' : (List.replicate n m).length ≤ 1000000 := by rw [List.length_replicate]; exact hn
  obtain ⟨k, hk, rfl⟩ := List.getElem_of_mem hx
  have hk2 : k < n := by
    have := drwR_len c n m hm hn
    omega
  have h := drw_at c _ hl hn' k (by rw [List.length_replicate]; exact hk2)
  have e : (drw c (List.replicate n m)).getD k 0 = (drwR c n m)[k] := by
    unfold drwR at hk ⊢
    simp [List.getD_eq_getElem?_getD, hk]
  rw [e] at h
  simpa [List.getD_eq_getElem?_getD, hk2] using h

/-! orders of a size -/
open Classical in
noncomputable def osz (c : Int) (n : Nat) : List Nat := if h : ∃ o : List Nat, F__law_of_size [.int c, nI n] = .ok (oL o) ∧ o.Perm (List.range n) then Classical.choose h else []
theorem osz_spec (c : Int) (n : Nat) (hn : n ≤ 1000000) : F__law_of_size [.int c, .int (n : Int)] = .ok (L (osz c n)) ∧ IsP (osz c n) n := by
  have h := F__law_of_size_eq c n hn
  have e : osz c n = Classical.choose h := dif_pos h
  rw [e]
  exact ⟨(Classical.choose_spec h).1, ⟨(Classical.choose_spec h).2⟩⟩
theorem osz_E (c : Int) (n : Nat) (hn : n ≤ 1000000) : F__law_of_size [.int c, .int (n : Int)] = .ok (L (osz c n)) := (osz_spec c n hn).1
theorem osz_P (c : Int) (n : Nat) (hn : n ≤ 1000000) : IsP (osz c n) n := (osz_spec c n hn).2

theorem lo_E (c : Int) (m : Nat) (hm : m < 1000000) : ∃ (o : List Nat) (n : Nat), n ≤ m ∧ F__law_order [.int c, .int (m : Int)] = .ok (L o) ∧ IsP o n := by
  obtain ⟨o, n, h1, h2, h3⟩ := F__law_order_eq c m hm
  exact ⟨o, n, h1, h2, ⟨h3⟩⟩
theorem cb_E (v a b : Int) (h : a ≤ v ∧ v ≤ b) : F_check_between [.int v, .int a, .int b] = .ok .none := by
  rw [F_check_between_eq, if_neg (by omega)]
theorem cb_er (v a b : Int) (h : v < a ∨ b < v) : F_check_between [.int v, .int a, .int b] = .er "OutOfRange" [("value", .int v), ("label", .str "OutOfRange")] := by
  rw [F_check_between_eq, if_pos (by omega)]

/-! orders -/
theorem chk_E {o : List Nat} {n : Nat} (h : IsP o n) (hn : n ≤ 1000000) : F_check_order [L o] = .ok .none := by
  have := F_check_order_eq (o.map fun k : Nat => (k : Int)) (by rw [List.length_map, h.len]; exact hn)
  rw [h.ord, if_pos rfl, ← oL_iL] at this
  exact this
theorem chk_no (ns : List Int) (h : isOrd ns = false) (hn : ns.length ≤ 1000000) : F_check_order [L ns] = .er "NotOrder" [("label", .str "NotOrder")] := by
  have := F_check_order_eq ns hn
  rw [h] at this
  exact this
theorem bk_E {o : List Nat} {n : Nat} (h : IsP o n) (hn : n ≤ 1000000) : F_backward [L o] = .ok (L (invO o)) := F_backward_eq h hn
theorem lbk_E {o : List Nat} {n : Nat} (h : IsP o n) (hn : n ≤ 1000000) : F__law_back [L o] = .ok (L (invO o)) := F__law_back_eq h hn
theorem cyc_E {o : List Nat} {n : Nat} (h : IsP o n) (hn : n < 1000000) : F_cycles_of [L o] = .ok (L (cycs (invO o) n)) := F_cycles_of_eq h hn
theorem lcyc_E {o : List Nat} {n : Nat} (h : IsP o n) (hn : n + n < 1000000) : F__law_cycles [L o] = .ok (L (cycs (invO o) n)) := F__law_cycles_eq h hn
theorem per_E {o : List Nat} {n : Nat} (h : IsP o n) (hn : n < 1000000) : F_period_of [L o] = .ok (.int (prd (invO o) n : Nat)) := F_period_of_eq h hn
theorem lper_E {o : List Nat} {n : Nat} (h : IsP o n) (hn : n + n < 1000000) : F__law_period [L o] = .ok (.int (prd (invO o) n : Nat)) := F__law_period_eq h hn
end DL
namespace DL
theorem tn_mod (a b : Nat) : ((a : Int) % (b : Int)).toNat = a % b := by rw [← Int.natCast_emod, Int.toNat_natCast]
theorem tn_div (a b : Nat) : ((a : Int) / (b : Int)).toNat = a / b := by rw [← Int.natCast_ediv, Int.toNat_natCast]
/-! lists written out -/
@[simp] theorem szL_5 (a0 a1 a2 a3 a4 : D) : szL [a0, a1, a2, a3, a4] = some [a0, a1, a2, a3, a4] := Eq.trans (Eq.refl _) rfl
@[simp] theorem szL_6 (a0 a1 a2 a3 a4 a5 : D) : szL [a0, a1, a2, a3, a4, a5] = some [a0, a1, a2, a3, a4, a5] := Eq.trans (Eq.refl _) rfl
@[simp] theorem szL_7 (a0 a1 a2 a3 a4 a5 a6 : D) : szL [a0, a1, a2, a3, a4, a5, a6] = some [a0, a1, a2, a3, a4, a5, a6] := Eq.trans (Eq.refl _) rfl
@[simp] theorem szL_8 (a0 a1 a2 a3 a4 a5 a6 a7 : D) : szL [a0, a1, a2, a3, a4, a5, a6, a7] = some [a0, a1, a2, a3, a4, a5, a6, a7] := Eq.trans (Eq.refl _) rfl
@[simp] theorem szL_9 (a0 a1 a2 a3 a4 a5 a6 a7 a8 : D) : szL [a0, a1, a2, a3, a4, a5, a6, a7, a8] = some [a0, a1, a2, a3, a4, a5, a6, a7, a8] := Eq.trans (Eq.refl _) rfl
@[simp] theorem szL_10 (a0 a1 a2 a3 a4 a5 a6 a7 a8 a9 : D) : szL [a0, a1, a2, a3, a4, a5, a6, a7, a8, a9] = some [a0, a1, a2, a3, a4, a5, a6, a7, a8, a9] := Eq.trans (Eq.refl _) rfl
@[simp] theorem szL_11 (a0 a1 a2 a3 a4 a5 a6 a7 a8 a9 a10 : D) : szL [a0, a1, a2, a3, a4, a5, a6, a7, a8, a9, a10] = some [a0, a1, a2, a3, a4, a5, a6, a7, a8, a9, a10] := Eq.trans (Eq.refl _) rfl
end DL
set_option Elab.async false
set_option linter.all false
set_option maxRecDepth 100000
set_option maxHeartbeats 1000000
/-! Texts, typed: lists of signs. -/
namespace DL
open PySem PySem.Spec PyProof.Rows L2

structure Tx where
  l : List Nat
  h : (l.all fun c => decide (c < 0x110000)) = true
deriving DecidableEq
def Tx.s (t : Tx) : Str := ⟨t.l.toArray⟩
theorem Tx.ext {a b : Tx} (h : a.l = b.l) : a = b := by
  cases a; cases b; simp at h; subst h; rfl
theorem Tx.s_inj {a b : Tx} : a.s = b.s ↔ a = b := by
  constructor
  · intro h
    refine Tx.ext ?_
    have := congrArg (fun x : Str => x.cps.toList) h
    simpa [Tx.s] using this
  · intro h; rw [h]
theorem Tx.len (t : Tx) : t.s.length = t.l.length := by simp [Tx.s, Str.length]
theorem Tx.cps (t : Tx) : t.s.cps.toList = t.l := by simp [Tx.s]
instance : PE Tx := ⟨fun t => .str t.s, 0, ⟨[], rfl⟩, fun t => ok_str 0 (by
  have := t.h
  unfold PyData.strOk Tx.s
  rw [← Array.all_toList]
  exact this), fun a b => by
  show PyData.eqv (.str a.s) (.str b.s) = true ↔ _
  rw [eqv_str, decide_eq_true_iff]
  exact Tx.s_inj⟩
instance : PN Tx := ⟨fun a => ⟨rfl, rfl⟩⟩
@[simp] theorem E_tx (t : Tx) : E t = .str t.s := Eq.trans (Eq.refl _) rfl
@[simp] theorem dep_tx : PE.dep Tx = 0 := rfl
@[simp] theorem ok_tx (k : Nat) (t : Tx) : Ok k (.str t.s) := ok_E t (Nat.zero_le k)
@[simp] theorem tx_eq (a b : Tx) : decide (a.s = b.s) = decide (a = b) := by
  rw [decide_eq_decide]; exact Tx.s_inj
@[simp] theorem Ls_snoc_tx (xs : List Tx) (a : Tx) : Ls xs ++ [.str a.s] = Ls (xs ++ [a]) := Ls_snoc _ _
theorem lenD_tx (t : Tx) (h : t.l.length ≤ 1000000) : lenD [.str t.s] = some (.int (t.l.length : Nat)) := by
  show (if _ then _ else _) = _
  rw [Tx.len, if_pos h]
/-- a written text -/
def tx (s : String) : Tx := ⟨s.toList.map Char.toNat, by
  rw [List.all_map, List.all_eq_true]
  intro c _
  exact decide_eq_true (by
    have := c.valid
    rcases this with h | h
    · exact Nat.lt_of_lt_of_le h (by decide)
    · exact h.2)⟩
theorem tx_s (s : String) : (tx s).s = Str.ofString s := by
  rw [Str.ofString_eq_toList]
  rfl
@[simp] theorem chr_of (c : Char) : (⟨#[c.toNat]⟩ : Str) = Str.ofString (String.singleton c) := by
  rw [Str.ofString_eq_toList]
  simp
/-- one sign -/
def ch (c : Nat) (h : c < 0x110000) : Tx := ⟨[c], by simp [h]⟩
theorem ixD_tx (t : Tx) (k : Nat) (hk : k < t.l.length) (h : t.l.length ≤ 1000000) : ixD (.str t.s) (.int (k : Int)) = some (.str ⟨#[t.l.getD k 0]⟩) := by
  show (if t.s.length ≤ LIM then _ else _) = _
  rw [Tx.len, if_pos h, Tx.cps]
  unfold L2.atI
  rw [ixN_nat hk]
  simp [hk]
theorem sgnO_tx (t : Tx) : sgnO (.str t.s) = some (t.l.map fun c => .str ⟨#[c]⟩) := by
  show some _ = _
  rw [Tx.cps]
@[simp] theorem strO_str (x : Str) : strO (.str x) = some x := Eq.trans (Eq.refl _) rfl
theorem strsO_tx : ∀ ts : List Str, strsO (ts.map PyData.str) = some ts
  | [] => rfl
  | t :: ts => by
    show (strsO (ts.map PyData.str)).map _ = _
    rw [strsO_tx ts]; rfl
theorem cps_append (a b : Str) : (a ++ b).cps.toList = a.cps.toList ++ b.cps.toList := TL.tl_append a b
theorem join_nil : ∀ ts : List Str, (Str.join ⟨#[]⟩ ts).cps.toList = ts.flatMap fun t => t.cps.toList
  | [] => rfl
  | [t] => by simp [Str.join]
  | t :: u :: r => by
    have ih := join_nil (u :: r)
    show (t ++ ⟨#[]⟩ ++ Str.join ⟨#[]⟩ (u :: r)).cps.toList = _
    rw [cps_append, cps_append, ih]
    simp
/-! letters and digits -/
def isLt (c : Nat) : Bool := decide (97 ≤ c) && decide (c ≤ 122)
def isDg (c : Nat) : Bool := decide (48 ≤ c) && decide (c ≤ 57)
theorem lex1 (a b : Nat) : decide ([a] < [b]) = decide (a < b) := by
  rw [decide_eq_decide]
  constructor
  · intro h
    cases h with
    | rel h => exact h
    | cons h => cases h
  · intro h
    exact .rel h
theorem leSD_1 (a b : Nat) : leSD (.str ⟨#[a]⟩) (.str ⟨#[b]⟩) = some (.bool (decide (a ≤ b))) := by
  show some (PyData.bool (!decide ([b] < [a]))) = _
  rw [lex1]
  have : (!decide (b < a)) = decide (a ≤ b) := by
    rw [Bool.eq_iff_iff]; simp
  rw [this]
def isNm (l : List Nat) : Bool := decide (1 ≤ l.length) && decide (l.length ≤ 12) && isLt (l.getD 0 0) && l.all fun c => isLt c || isDg c
end DL
namespace DL
open PySem PySem.Spec PyProof.Rows L2
theorem strOk_litT (s : String) : PyData.strOk (Str.ofString s) = true := by
  unfold PyData.strOk
  rw [Str.ofString_eq_toList]
  rw [List.all_toArray, List.all_eq_true]
  intro z hz
  obtain ⟨c, _, rfl⟩ := List.mem_map.mp hz
  rw [decide_eq_true_eq]
  have := c.valid
  show c.val.toNat < 0x110000
  rcases this with h | ⟨_, h⟩
  · exact Nat.lt_trans h (by decide)
  · exact h
@[simp] theorem ok_strlT (k : Nat) (s : String) : Ok k (.str (Str.ofString s)) := ok_str k (strOk_litT s)
@[simp] theorem lendR_const {α : Type} (r : Rs α) : lendR (fun _ => r) = r := lendR_eq fun _ => rfl
@[simp] theorem cFR_eq (j n : Nat) (fs : Env → Rs (List D)) (F : Addr → List D → List D → Rs D) (γ : Env) : cFR j n fs F γ = (lsE γ j).bind fun ls => (fs γ).bind fun ds => if ds.length + 1 = n then lendR fun q => noEr (F q ls ds) else .no := Eq.trans (Eq.refl _) rfl
@[simp] theorem sSetW_eq (i j n : Nat) (fs : Env → Rs (List D)) (F : Addr → List D → List D → Rs (D × List D)) (γ : Env) : sSetW i j n fs F γ = liftS ((fs γ).bind fun ds => (lsE γ j).bind fun ls => if ds.length + 1 = n then lendR fun q => noEr (F q ls ds) else .no) γ fun r => .nx ((γ.set j (some (.list r.2))).set i (some r.1)) := Eq.trans (Eq.refl _) rfl
@[simp] theorem eM1_eq {α : Type} (f g : Env → Rs D) (F : D → D → Option α) (γ : Env) : eM1 f g F γ = (f γ).bind fun d => (oR (strO d)).bind fun _ => (g γ).bind fun e => oR (F d e) := Eq.trans (Eq.refl _) rfl
@[simp] theorem awN_eq (j : Nat) (γ : Env) : awN j γ = (lsE γ j).bind fun _ => .ok [] := Eq.trans (Eq.refl _) rfl
@[simp] theorem awC_eq (f : Env → Rs D) (fs : Env → Rs (List D)) (γ : Env) : awC f fs γ = (f γ).bind fun d => (fs γ).bind fun ds => .ok (d :: ds) := Eq.trans (Eq.refl _) rfl
def tjoin (ts : List Tx) : Tx := ⟨ts.flatMap Tx.l, by
  rw [List.all_flatMap, List.all_eq_true]
  intro t _
  exact t.h⟩
theorem joinD_tx (ts : List Tx) (h : (ts.map fun t => t.l.length).sum ≤ 1000000) : joinD (.str (Str.ofString "")) (L ts) = some (.str (tjoin ts).s) := by
  have e0 : Str.ofString "" = ⟨#[]⟩ := by decide
  have e1 : strsO (Ls ts) = some (ts.map Tx.s) := by
    have : Ls ts = (ts.map Tx.s).map PyData.str := by
      unfold Ls
      rw [List.map_map]
      rfl
    rw [this, strsO_tx]
  show (strsO (Ls ts)).bind _ = _
  rw [e1, Option.bind_some]
  have e2 : ((ts.map Tx.s).map (·.length)).sum + (ts.map Tx.s).length * (Str.ofString "").length ≤ LIM := by
    rw [e0, List.map_map]
    have : (fun x : Str => x.length) ∘ Tx.s = fun t : Tx => t.l.length := funext fun t => Tx.len t
    rw [this]
    have : (⟨#[]⟩ : Str).length = 0 := rfl
    rw [this, Nat.mul_zero]
    exact h
  rw [if_pos e2]
  congr 2
  rw [e0]
  have : ∀ a b : Str, a.cps.toList = b.cps.toList → a = b := fun a b h => TL.ext_tl h
  refine this _ _ ?_
  rw [join_nil, Tx.cps]
  show _ = ts.flatMap Tx.l
  rw [List.flatMap_map]
  congr 1
def chN (c : Nat) : Tx := if h : c < 0x110000 then ⟨[c], by simp [h]⟩ else ⟨[97], by decide⟩
theorem chN_l {c : Nat} (h : c < 0x110000) : (chN c).l = [c] := by unfold chN; rw [dif_pos h]
theorem chN_s {c : Nat} (h : c < 0x110000) : (chN c).s = ⟨#[c]⟩ := by
  unfold Tx.s
  rw [chN_l h]
theorem tx_lt (t : Tx) (k : Nat) (hk : k < t.l.length) : t.l.getD k 0 < 0x110000 := by
  have := List.all_eq_true.mp t.h (t.l.getD k 0) (by
    rw [List.getD_eq_getElem?_getD, List.getElem?_eq_getElem hk]
    exact List.getElem_mem _)
  exact of_decide_eq_true this
end DL
set_option Elab.async false
set_option linter.all false
set_option maxRecDepth 100000
set_option maxHeartbeats 1000000
/-! Plain: tokens. -/
namespace DL
open PySem PySem.Spec PyProof.Rows L2
local macro_rules | `(tactic| trivial) => `(tactic| first | omega | (simp; done))

theorem leSD_lo (s : String) (a b : Nat) (h : Str.ofString s = ⟨#[a]⟩) : leSD (.str (Str.ofString s)) (.str ⟨#[b]⟩) = some (.bool (decide (a ≤ b))) := by rw [h, leSD_1]
theorem leSD_hi (s : String) (a b : Nat) (h : Str.ofString s = ⟨#[a]⟩) : leSD (.str ⟨#[b]⟩) (.str (Str.ofString s)) = some (.bool (decide (b ≤ a))) := by rw [h, leSD_1]
theorem islt_E (c : Nat) : F_is_letter [.str ⟨#[c]⟩] = .ok (.bool (isLt c)) := by
  have a := leSD_lo "a" 97 c (by decide)
  have b := leSD_hi "z" 122 c (by decide)
  simp [F_is_letter, callS_eq, g_is_letter, chainD, a, b, isLt]
  by_cases h : 97 ≤ c <;> simp [h]
theorem isdg_E (c : Nat) : F_is_digit [.str ⟨#[c]⟩] = .ok (.bool (isDg c)) := by
  have a := leSD_lo "0" 48 c (by decide)
  have b := leSD_hi "9" 57 c (by decide)
  simp [F_is_digit, callS_eq, g_is_digit, chainD, a, b, isDg]
  by_cases h : 48 ≤ c <;> simp [h]
def isAn (c : Nat) : Bool := isLt c || (decide (65 ≤ c) && decide (c ≤ 90))
theorem isan_E (c : Nat) : F_is_any_letter [.str ⟨#[c]⟩] = .ok (.bool (isAn c)) := by
  have a := leSD_lo "A" 65 c (by decide)
  have b := leSD_hi "Z" 90 c (by decide)
  have e := islt_E c
  unfold isAn
  generalize isLt c = q at *
  cases q <;> by_cases h : 65 ≤ c <;> simp [F_is_any_letter, callS_eq, g_is_any_letter, chainD, a, b, e, h]
theorem isnm_E (t : Tx) (hl : t.l.length ≤ 1000000) : F_is_name [.str t.s] = .ok (.bool (isNm t.l)) := by
  have l := lenD_tx t hl
  have sg := sgnO_tx t
  unfold isNm
  by_cases h1 : 1 ≤ t.l.length
  · have n1 : ¬ ((t.l.length : Int) < 1) := by omega
    by_cases h2 : t.l.length ≤ 12
    · have n2 : ¬ (12 < (t.l.length : Int)) := by omega
      have i0 := ixD_tx t 0 (by omega) hl
      have e := islt_E (t.l.getD 0 0)
      have d1 := decide_eq_true h1
      have d2 := decide_eq_true h2
      rw [d1, d2]
      generalize t.l.getD 0 0 = x0 at *
      simp at i0
      cases h3 : isLt x0 with
      | false =>
        rw [h3] at e
        simp [F_is_name, callS_eq, g_is_name, l, n1, n2, i0, e]
      | true =>
        rw [h3] at e
        simp [F_is_name, callS_eq, g_is_name, l, n1, n2, i0, e, sg]
        generalize hf : forS _ _ _ _ = o
        have := for_turns (g := fun c : Nat => PyData.str ⟨#[c]⟩) (xs := t.l) hf (fun i γ => ∃ x, γ = [some (.str t.s), x] ∧ (t.l.take i).all (fun c => isLt c || isDg c) = true)
          (fun o => (∃ x, o = .nx [some (.str t.s), x] ∧ t.l.all (fun c => isLt c || isDg c) = true) ∨ (o = .rt (.bool false) ∧ t.l.all (fun c => isLt c || isDg c) = false)) ⟨none, rfl, by simp⟩ (by
          rintro i hi γ ⟨x, rfl, hx⟩
          refine ⟨_, rfl, ?_⟩
          have a := islt_E t.l[i]
          have b := isdg_E t.l[i]
          have ht : (t.l.take (i + 1)).all (fun c => isLt c || isDg c) = (isLt t.l[i] || isDg t.l[i]) := by
            rw [List.take_succ_eq_append_getElem hi, List.all_append, hx]
            simp
          have hn : (isLt t.l[i] || isDg t.l[i]) = false → t.l.all (fun c => isLt c || isDg c) = false := fun z => by
            rw [List.all_eq_false]
            exact ⟨t.l[i], List.getElem_mem _, by rw [z]; decide⟩
          rw [ht]
          generalize t.l[i] = c at *
          cases p : isLt c <;> cases q : isDg c <;> simp [a, b, p, q]
          rw [p, q] at hn
          simpa using hn) (by
          rintro γ ⟨x, rfl, hx⟩
          rw [List.take_length] at hx
          exact .inl ⟨x, rfl, hx⟩)
        rcases this with ⟨x, rfl, h4⟩ | ⟨rfl, h4⟩
        · rw [h4]; simp
        · rw [h4]; simp
    · have n2 : 12 < (t.l.length : Int) := by omega
      simp [F_is_name, callS_eq, g_is_name, l, n1, n2, h2]
  · have n1 : (t.l.length : Int) < 1 := by omega
    simp [F_is_name, callS_eq, g_is_name, l, n1, h1]
/-! runs -/
def rn (p : Nat → Bool) (l : List Nat) : Nat := (l.takeWhile p).length
theorem rn_le (p : Nat → Bool) (l : List Nat) : rn p l ≤ l.length := (List.takeWhile_sublist p).length_le
theorem rn_lt (p : Nat → Bool) : ∀ (l : List Nat) (k : Nat), k < rn p l → p (l.getD k 0) = true
  | [], k, h => by simp [rn] at h
  | a :: l, k, h => by
    unfold rn at h
    rw [List.takeWhile_cons] at h
    split at h
    · rename_i ha
      cases k with
      | zero => simpa using ha
      | succ k =>
        simp only [List.getD_cons_succ]
        exact rn_lt p l k (by unfold rn; simpa using h)
    · simp at h
theorem rn_end (p : Nat → Bool) : ∀ (l : List Nat), rn p l < l.length → p (l.getD (rn p l) 0) = false
  | [], h => by simp at h
  | a :: l, h => by
    unfold rn at *
    rw [List.takeWhile_cons] at *
    split at h
    · rename_i ha
      rw [if_pos ha]
      simp only [List.length_cons, List.getD_cons_succ]
      exact rn_end p l (by unfold rn; simpa using h)
    · rename_i ha
      rw [if_neg ha]
      simpa using ha
def PRn (ln : D) (at0 m : Nat) (k : Nat) (γ : Env) : Prop := k ≤ m ∧ γ = [some ln, some (.int at0), some (.int (at0 + k : Nat))]
theorem rdg_E (t : Tx) (i : Nat) (hi : i ≤ t.l.length) (hl : t.l.length ≤ 1000000) : F_run_of_digits [.str t.s, .int i] = .ok (.int (i + rn isDg (t.l.drop i) : Nat)) := by
  have l := lenD_tx t hl
  simp [F_run_of_digits, callS_eq, g_run_of_digits]
  generalize hf : whileS _ _ _ _ = o
  have hle := rn_le isDg (t.l.drop i)
  rw [List.length_drop] at hle
  have := while_turns hf (PRn (.str t.s) i (rn isDg (t.l.drop i))) (fun o => o = .nx [some (.str t.s), some (.int i), some (.int (i + rn isDg (t.l.drop i) : Nat))]) (rn isDg (t.l.drop i)) (by omega) ⟨by omega, rfl⟩ (fun k γ h => h.1) (by
    rintro k γ ⟨hk, rfl⟩
    by_cases h1 : i + k < t.l.length
    · have ix := ixD_tx t (i + k) h1 hl
      have e := isdg_E (t.l.getD (i + k) 0)
      have hd : (t.l.drop i).getD k 0 = t.l.getD (i + k) 0 := by simp [List.getD_eq_getElem?_getD]
      have h1' : ((i + k : Nat) : Int) < t.l.length := by omega
      by_cases h2 : k < rn isDg (t.l.drop i)
      · have h3 := rn_lt isDg _ k h2
        rw [hd] at h3
        rw [h3] at e
        generalize t.l.getD (i + k) 0 = c at *
        left
        simp only [Int.natCast_add] at ix h1'
        simp [l, h1', ix, e]
        exact ⟨by omega, by simp; omega⟩
      · have hk2 : k = rn isDg (t.l.drop i) := by omega
        subst hk2
        have h3 := rn_end isDg (t.l.drop i) (by rw [List.length_drop]; omega)
        rw [hd] at h3
        rw [h3] at e
        generalize rn isDg (t.l.drop i) = k at *
        generalize t.l.getD (i + k) 0 = c at *
        right
        simp only [Int.natCast_add] at ix h1'
        simp [l, h1', ix, e]
    · right
      have hk2 : k = rn isDg (t.l.drop i) := by omega
      subst hk2
      generalize rn isDg (t.l.drop i) = k at *
      have h1' : ¬ ((i : Int) + k < t.l.length) := by omega
      simp [l, h1'])
  subst this
  simp
def isLd (c : Nat) : Bool := isLt c || isDg c
theorem rlt_E (t : Tx) (i : Nat) (hi : i ≤ t.l.length) (hl : t.l.length ≤ 1000000) : F_run_of_letters [.str t.s, .int i] = .ok (.int (i + rn isLd (t.l.drop i) : Nat)) := by
  have l := lenD_tx t hl
  simp [F_run_of_letters, callS_eq, g_run_of_letters]
  generalize hf : whileS _ _ _ _ = o
  have hle := rn_le isLd (t.l.drop i)
  rw [List.length_drop] at hle
  have := while_turns hf (PRn (.str t.s) i (rn isLd (t.l.drop i))) (fun o => o = .nx [some (.str t.s), some (.int i), some (.int (i + rn isLd (t.l.drop i) : Nat))]) (rn isLd (t.l.drop i)) (by omega) ⟨by omega, rfl⟩ (fun k γ h => h.1) (by
    rintro k γ ⟨hk, rfl⟩
    by_cases h1 : i + k < t.l.length
    · have ix := ixD_tx t (i + k) h1 hl
      have e := isdg_E (t.l.getD (i + k) 0)
      have e2 := islt_E (t.l.getD (i + k) 0)
      have hd : (t.l.drop i).getD k 0 = t.l.getD (i + k) 0 := by simp [List.getD_eq_getElem?_getD]
      have h1' : ((i + k : Nat) : Int) < t.l.length := by omega
      by_cases h2 : k < rn isLd (t.l.drop i)
      · have h3 := rn_lt isLd _ k h2
        rw [hd] at h3
        unfold isLd at h3
        generalize t.l.getD (i + k) 0 = c at *
        left
        simp only [Int.natCast_add] at ix h1'
        cases h4 : isLt c with
        | true =>
          rw [h4] at e2
          simp [l, h1', ix, e2]
          exact ⟨by omega, by simp; omega⟩
        | false =>
          rw [h4] at e2 h3
          rw [show isDg c = true from by simpa using h3] at e
          simp [l, h1', ix, e2, e]
          exact ⟨by omega, by simp; omega⟩
      · have hk2 : k = rn isLd (t.l.drop i) := by omega
        subst hk2
        have h3 := rn_end isLd (t.l.drop i) (by rw [List.length_drop]; omega)
        rw [hd] at h3
        unfold isLd at h3
        rw [Bool.or_eq_false_iff] at h3
        rw [show (fun c => isLt c || isDg c) = isLd from rfl] at h3
        rw [h3.1] at e2
        rw [h3.2] at e
        generalize rn isLd (t.l.drop i) = k at *
        generalize t.l.getD (i + k) 0 = c at *
        right
        simp only [Int.natCast_add] at ix h1'
        simp [l, h1', ix, e, e2]
    · right
      have hk2 : k = rn isLd (t.l.drop i) := by omega
      subst hk2
      generalize rn isLd (t.l.drop i) = k at *
      have h1' : ¬ ((i : Int) + k < t.l.length) := by omega
      simp [l, h1'])
  subst this
  simp
end DL
set_option Elab.async false
set_option linter.all false
set_option maxRecDepth 100000
set_option maxHeartbeats 1000000
/-! Plain: tokens of a line. -/
namespace DL
open PySem PySem.Spec PyProof.Rows L2
local macro_rules | `(tactic| trivial) => `(tactic| first | omega | (simp; done))

def dval (d : List Nat) : Nat := NumText.digitsVal d
def numO (d : List Nat) : Option Nat := if 7 < d.length ∨ (1 < d.length ∧ d.getD 0 0 = 48) then none else if 1000000 < dval d then none else some (dval d)
def sgn : List Nat := (tx "{}();,:=+-*<").l
theorem eq_chr (c k : Nat) (s : String) (h : Str.ofString s = ⟨#[k]⟩) (hc : c < 0x110000) (hk : k < 0x110000) : eqD (.str ⟨#[c]⟩) (.str (Str.ofString s)) = some (.bool (decide (c = k))) := by
  rw [h, ← chN_s hc, ← chN_s hk, eqD_ok (ok_tx 64 _) (ok_tx 64 _), eqv_str, tx_eq]
  congr 2
  rw [decide_eq_decide]
  constructor
  · intro e
    have := congrArg Tx.l e
    rw [chN_l hc, chN_l hk] at this
    simpa using this
  · intro e; rw [e]
theorem in_sgn (c : Nat) : inSD false (.str ⟨#[c]⟩) (.str (Str.ofString "{}();,:=+-*<")) = some (.bool (decide (c ∈ sgn))) := by
  have e : (Str.ofString "{}();,:=+-*<").cps.toList = sgn := by rw [← tx_s, Tx.cps]; rfl
  show some (PyData.bool (false != decide (c ∈ (Str.ofString "{}();,:=+-*<").cps.toList))) = _
  rw [e, Bool.false_bne]
def encON : Option Nat → D
  | none => .none
  | some k => .int (k : Int)
theorem numd_E (t : Tx) (h0 : t.l ≠ []) (hd : t.l.all isDg = true) (hl : t.l.length ≤ 1000000) : F_number_of_digits [.str t.s] = .ok (encON (numO t.l)) := by
  have l := lenD_tx t hl
  have hpos : 0 < t.l.length := List.length_pos_iff.mpr h0
  have i0 := ixD_tx t 0 hpos hl
  have e0 := eq_chr (t.l.getD 0 0) 48 "0" (by decide) (tx_lt t 0 hpos) (by decide)
  unfold numO
  have hit : t.l.length ≤ 7 → intT [.str t.s] = some (.int (dval t.l : Nat)) := fun h7 => by
    have : intText? t.s = some ((dval t.l : Nat) : Int) := by
      have := intText_digits (x := t.s) (by
        rw [Tx.cps]
        intro c hc
        have := List.all_eq_true.mp hd c hc
        unfold isDg at this
        simpa using this) (by rw [Tx.cps]; exact h0) (by rw [Tx.len]; omega)
      rw [Tx.cps] at this
      exact this
    show (if t.s.length ≤ 640 then _ else _) = _
    rw [Tx.len, if_pos (by omega), this]
    rfl
  generalize t.l.getD 0 0 = c0 at *
  generalize dval t.l = v at *
  simp at i0
  by_cases h1 : 7 < t.l.length
  · have h1' : (7 : Int) < t.l.length := by omega
    simp [F_number_of_digits, callS_eq, g_number_of_digits, l, h1, h1', encON]
  · have h1' : ¬ (7 : Int) < t.l.length := by omega
    have hit := hit (by omega)
    by_cases h2 : 1 < t.l.length
    · have h2' : (1 : Int) < t.l.length := by omega
      by_cases h3 : c0 = 48
      · subst h3
        simp [F_number_of_digits, callS_eq, g_number_of_digits, l, h1, h1', h2, h2', i0, e0, encON]
      · by_cases h4 : 1000000 < v
        · have h4' : (1000000 : Int) < v := by omega
          simp [F_number_of_digits, callS_eq, g_number_of_digits, l, h1, h1', h2, h2', i0, e0, h3, hit, h4, h4', encON]
        · have h4' : ¬ (1000000 : Int) < v := by omega
          simp [F_number_of_digits, callS_eq, g_number_of_digits, l, h1, h1', h2, h2', i0, e0, h3, hit, h4, h4', encON]
    · have h2' : ¬ (1 : Int) < t.l.length := by omega
      by_cases h4 : 1000000 < v
      · have h4' : (1000000 : Int) < v := by omega
        simp [F_number_of_digits, callS_eq, g_number_of_digits, l, h1, h1', h2, h2', hit, h4, h4', encON]
      · have h4' : ¬ (1000000 : Int) < v := by omega
        simp [F_number_of_digits, callS_eq, g_number_of_digits, l, h1, h1', h2, h2', hit, h4, h4', encON]
/-! the tokens -/
def Tx.cut (t : Tx) (a n : Nat) : Tx := ⟨(t.l.drop a).take n, by
  rw [List.all_eq_true]
  intro c hc
  exact List.all_eq_true.mp t.h c (List.drop_subset _ _ (List.take_subset _ _ hc))⟩
theorem cut_tx (t : Tx) (a b : Nat) (hl : t.l.length ≤ 1000000) (hb : b ≤ t.l.length) (hab : a ≤ b) : cutAD (some (a : Int)) (some (b : Int)) (.str t.s) = some (.str (t.cut a (b - a)).s) := by
  show (if t.s.length ≤ LIM then some (PyData.str (cutS t.s (some (a : Int)) (some (b : Int)))) else none) = _
  rw [Tx.len, if_pos hl]
  congr 2
  have : ∀ a b : Str, a.cps.toList = b.cps.toList → a = b := fun a b h => TL.ext_tl h
  refine this _ _ ?_
  rw [Tx.cps]
  unfold cutS
  rw [HT.sIx_nat, HT.sIx_nat, Tx.len, Tx.cps, Nat.min_eq_left hb, Nat.min_eq_left (Nat.le_trans hab hb)]
  rfl
inductive Tv where
  | word (t : Tx)
  | num (n : Nat)
  | sign (t : Tx)
  | fin
  | flt
deriving DecidableEq
def Tv.kd : Tv → Str
  | .word _ => "word"
  | .num _ => "number"
  | .sign _ => "sign"
  | .fin => "end"
  | .flt => "fault"
def Tv.vl : Tv → D
  | .word t => .str t.s
  | .num n => .int (n : Int)
  | .sign t => .str t.s
  | _ => .str ""
structure Tk where
  v : Tv
  ln : Nat
  cl : Nat
deriving DecidableEq
def encTk (k : Tk) : D := .tuple [.str k.v.kd, k.v.vl, .int k.ln, .int k.cl]
theorem Tv.ok (v : Tv) : Ok 0 (.str v.kd) ∧ Ok 0 v.vl := by
  cases v <;> simp [Tv.kd, Tv.vl]
instance : PE Tk := ⟨encTk, 1, ⟨.fin, 0, 0⟩, fun k => ok_tuple_iff.mpr fun d hd => by
  have := k.v.ok
  simp only [List.mem_cons, List.not_mem_nil, or_false] at hd
  rcases hd with rfl | rfl | rfl | rfl
  · exact this.1
  · exact this.2
  · exact ok_int 0 _
  · exact ok_int 0 _, fun a b => by
  obtain ⟨v, l, c⟩ := a
  obtain ⟨v', l', c'⟩ := b
  cases v <;> cases v' <;> simp [encTk, Tv.kd, Tv.vl, Tx.s_inj, strl_inj] <;> omega⟩
theorem E_tk (k : Tk) : E k = .tuple [.str k.v.kd, k.v.vl, .int k.ln, .int k.cl] := rfl
@[simp] theorem dep_tk : PE.dep Tk = 1 := rfl
def encTA : Option (Tv × Nat) → D
  | none => .none
  | some (v, e) => .tuple [.str v.kd, v.vl, .int (e : Int)]
section
variable {t : Tx} {i : Nat} {s : List Nat}
theorem suf_len (h : t.l.drop i = s) (hi : i ≤ t.l.length) : t.l.length = i + s.length := by
  have := congrArg List.length h
  rw [List.length_drop] at this
  omega
theorem suf_get (h : t.l.drop i = s) (k : Nat) : t.l.getD (i + k) 0 = s.getD k 0 := by
  rw [← h]
  simp [List.getD_eq_getElem?_getD]
theorem tw_all (p : Nat → Bool) : ∀ (w s : List Nat), w.all p = true → (s = [] ∨ p (s.getD 0 0) = false) → (w ++ s).takeWhile p = w
  | [], s, _, h => by
    cases s with
    | nil => rfl
    | cons a s =>
      rcases h with h | h
      · cases h
      · have h : p a = false := by simpa using h
        simp [h]
  | a :: w, s, ha, h => by
    rw [List.all_cons, Bool.and_eq_true] at ha
    rw [List.cons_append, List.takeWhile_cons, if_pos ha.1, tw_all p w s ha.2 h]
theorem dg_lt {c : Nat} (h : isDg c = true) : isLt c = false := by
  unfold isDg at h
  unfold isLt
  simp only [Bool.and_eq_true, decide_eq_true_eq] at h
  rw [decide_eq_false (by omega : ¬ 97 ≤ c)]
  rfl
theorem lt_dg {c : Nat} (h : isLt c = true) : isDg c = false := by
  cases hd : isDg c with
  | false => rfl
  | true => rw [dg_lt hd] at h; cases h
theorem hd_get {w s : List Nat} (h : w ≠ []) : (w ++ s).getD 0 0 = w.getD 0 0 := by
  cases w with
  | nil => exact absurd rfl h
  | cons a w => rfl
theorem tok_word (w : Tx) (h : t.l.drop i = w.l ++ s) (hl : t.l.length ≤ 1000000) (hi : i ≤ t.l.length) (h0 : w.l ≠ []) (h1 : isLt (w.l.getD 0 0) = true) (h2 : w.l.all isLd = true) (h3 : s = [] ∨ isLd (s.getD 0 0) = false) :
    F_token_at [.str t.s, .int i] = .ok (encTA (some (.word w, i + w.l.length))) := by
  have hlen := suf_len h hi
  rw [List.length_append] at hlen
  have hw : 0 < w.l.length := List.length_pos_iff.mpr h0
  have ix := ixD_tx t i (by omega) hl
  have hc : t.l.getD i 0 = w.l.getD 0 0 := by
    have := suf_get h 0
    rw [Nat.add_zero, hd_get h0] at this
    exact this
  rw [hc] at ix
  have e1 := isdg_E (w.l.getD 0 0)
  rw [lt_dg h1] at e1
  have e2 := islt_E (w.l.getD 0 0)
  rw [h1] at e2
  have r := rlt_E t i hi hl
  have hr : rn isLd (t.l.drop i) = w.l.length := by
    unfold rn
    rw [h, tw_all isLd w.l s h2 h3]
  rw [hr] at r
  have ct := cut_tx t i (i + w.l.length) hl (by omega) (by omega)
  have hcut : t.cut i (i + w.l.length - i) = w := Tx.ext (by
    show (t.l.drop i).take _ = _
    rw [h, Nat.add_sub_cancel_left, List.take_left' rfl])
  rw [hcut] at ct
  generalize w.l.getD 0 0 = c at *
  simp at ix ct r
  simp [F_token_at, callS_eq, g_token_at, ix, e1, e2, r, ct, encTA, Tv.kd, Tv.vl]
end
end DL
set_option Elab.async false
set_option linter.all false
set_option maxRecDepth 100000
set_option maxHeartbeats 1000000
/-! Plain: tokens of a line, the other kinds; a line. -/
namespace DL
open PySem PySem.Spec PyProof.Rows L2
local macro_rules | `(tactic| trivial) => `(tactic| first | omega | (simp; done))

section
variable {t : Tx} {i : Nat} {s : List Nat}
/-- a run of digits and what it gives -/
theorem tok_dig (d : List Nat) (h : t.l.drop i = d ++ s) (hl : t.l.length ≤ 1000000) (hi : i ≤ t.l.length) (h0 : d ≠ []) (h2 : d.all isDg = true) (h3 : s = [] ∨ isDg (s.getD 0 0) = false) :
    F_token_at [.str t.s, .int i] = .ok (match numO d with
      | none => .none
      | some v => if s ≠ [] ∧ isAn (s.getD 0 0) = true then .none else encTA (some (.num v, i + d.length))) := by
  have hlen := suf_len h hi
  rw [List.length_append] at hlen
  have hw : 0 < d.length := List.length_pos_iff.mpr h0
  have ix := ixD_tx t i (by omega) hl
  have hc : t.l.getD i 0 = d.getD 0 0 := by
    have := suf_get h 0
    rw [Nat.add_zero, hd_get h0] at this
    exact this
  have h1 : isDg (d.getD 0 0) = true := by
    cases d with
    | nil => exact absurd rfl h0
    | cons a d =>
      rw [List.all_cons, Bool.and_eq_true] at h2
      exact h2.1
  rw [hc] at ix
  have e1 := isdg_E (d.getD 0 0)
  rw [h1] at e1
  have r := rdg_E t i hi hl
  have hr : rn isDg (t.l.drop i) = d.length := by
    unfold rn
    rw [h, tw_all isDg d s h2 h3]
  rw [hr] at r
  have ct := cut_tx t i (i + d.length) hl (by omega) (by omega)
  have hcut : (t.cut i (i + d.length - i)).l = d := by
    show (t.l.drop i).take _ = _
    rw [h, Nat.add_sub_cancel_left, List.take_left' rfl]
  have nd := numd_E (t.cut i (i + d.length - i)) (by rw [hcut]; exact h0) (by rw [hcut]; exact h2) (by rw [hcut]; omega)
  rw [hcut] at nd
  have ln := lenD_tx t hl
  have hse : s ≠ [] ↔ i + d.length < t.l.length := by
    rw [hlen]
    constructor
    · intro z; have := List.length_pos_iff.mpr z; omega
    · intro z y; rw [y] at z; simp at z
  have hne : s ≠ [] → ixD (.str t.s) (.int ((i + d.length : Nat) : Int)) = some (.str ⟨#[s.getD 0 0]⟩) := fun z => by
    have := ixD_tx t (i + d.length) (hse.mp z) hl
    rw [suf_get h] at this
    have e : (d ++ s).getD d.length 0 = s.getD 0 0 := by
      rw [List.getD_eq_getElem?_getD, List.getElem?_append_right (Nat.le_refl _), Nat.sub_self, ← List.getD_eq_getElem?_getD]
    rwa [e] at this
  have e3 := isan_E (s.getD 0 0)
  generalize t.cut i (i + d.length - i) = tc at *
  generalize d.getD 0 0 = c at *
  generalize s.getD 0 0 = c2 at *
  simp only [Int.natCast_add] at ct r hne
  cases hn : numO d with
  | none =>
    rw [hn] at nd
    have nd : F_number_of_digits [.str tc.s] = .ok .none := nd
    simp [F_token_at, callS_eq, g_token_at, ix, e1, r, ct, nd, isNoneD]
  | some v =>
    rw [hn] at nd
    have nd : F_number_of_digits [.str tc.s] = .ok (.int (v : Int)) := nd
    by_cases hs : s = []
    · have h4 : ¬ ((i : Int) + d.length < t.l.length) := by
        have := (not_congr hse).mp (fun z => z hs)
        omega
      simp [F_token_at, callS_eq, g_token_at, ix, e1, r, ct, nd, isNoneD, ln, h4, hs, encTA, Tv.kd, Tv.vl]
    · have h4 : (i : Int) + d.length < t.l.length := by
        have := hse.mp hs
        omega
      have hne := hne hs
      cases ha : isAn c2 <;> rw [ha] at e3 <;> simp [F_token_at, callS_eq, g_token_at, ix, e1, r, ct, nd, isNoneD, ln, h4, hs, encTA, Tv.kd, Tv.vl, hne, e3]
theorem tok_sign (c : Nat) (h : t.l.drop i = c :: s) (hl : t.l.length ≤ 1000000) (hi : i ≤ t.l.length) (h1 : isDg c = false) (h2 : isLt c = false) :
    F_token_at [.str t.s, .int i] = .ok (if c ∈ sgn then encTA (some (.sign (chN c), i + 1)) else .none) := by
  have hlen := suf_len h hi
  rw [List.length_cons] at hlen
  have ix := ixD_tx t i (by omega) hl
  have hb := tx_lt t i (by omega)
  have hc : t.l.getD i 0 = c := by
    have := suf_get h 0
    rw [Nat.add_zero] at this
    exact this
  rw [hc] at ix hb
  have e1 := isdg_E c
  rw [h1] at e1
  have e2 := islt_E c
  rw [h2] at e2
  have e3 := in_sgn c
  have e4 := chN_s hb
  by_cases hm : c ∈ sgn
  · rw [if_pos hm]
    rw [decide_eq_true hm] at e3
    simp [F_token_at, callS_eq, g_token_at, ix, e1, e2, e3, encTA, Tv.kd, Tv.vl, e4]
  · rw [if_neg hm]
    rw [decide_eq_false hm] at e3
    simp [F_token_at, callS_eq, g_token_at, ix, e1, e2, e3]
end
/-! a line -/
inductive LTk (n : Nat) : List Nat → Nat → List Tk → Nat → Prop
  | nil {col} : LTk n [] col [] 0
  | com {c col} : LTk n (35 :: c) col [] 0
  | sp {s col ts f} : LTk n s (col + 1) ts f → LTk n (32 :: s) col ts f
  | word {s col ts f} (w : Tx) : w.l ≠ [] → isLt (w.l.getD 0 0) = true → w.l.all isLd = true → (s = [] ∨ isLd (s.getD 0 0) = false) → LTk n s (col + w.l.length) ts f → LTk n (w.l ++ s) col (⟨.word w, n, col⟩ :: ts) f
  | num {s col ts f} (d : List Nat) (v : Nat) : d ≠ [] → d.all isDg = true → numO d = some v → (s = [] ∨ (isDg (s.getD 0 0) = false ∧ isAn (s.getD 0 0) = false)) → LTk n s (col + d.length) ts f → LTk n (d ++ s) col (⟨.num v, n, col⟩ :: ts) f
  | sign {s col ts f} (c : Nat) : c ∈ sgn → LTk n s (col + 1) ts f → LTk n (c :: s) col (⟨.sign (chN c), n, col⟩ :: ts) f
  | bad {s col} (c : Nat) : c ≠ 35 → c ≠ 32 → isDg c = false → isLt c = false → c ∉ sgn → LTk n (c :: s) col [] col
  | badn {s col} (d : List Nat) : d ≠ [] → d.all isDg = true → (s = [] ∨ isDg (s.getD 0 0) = false) → (numO d = none ∨ (s ≠ [] ∧ isAn (s.getD 0 0) = true)) → LTk n (d ++ s) col [] col
/-- loops of a lent list -/
def turnL (P : Env → List D → Prop) (Q : OutL → Prop) : OutL → Prop
  | .nx γ ls => P γ ls
  | .ct γ ls => P γ ls
  | .bk γ ls => Q (.nx γ ls)
  | .rt d ls => Q (.rt d ls)
  | .no => False
theorem whileL_turns {t : Env → Rs Bool} {b : Env → List D → OutL} {γ : Env} {ls : List D} {o : OutL} (hf : whileL t b FUEL γ ls = o) (P : Nat → Env → List D → Prop) (Q : OutL → Prop) (N : Nat) (hN : N ≤ 1000000000000000000000000000000) (h0 : P 0 γ ls)
    (hb : ∀ k γ ls, P k γ ls → k ≤ N) (step : ∀ k γ ls, P k γ ls → (t γ = .ok true ∧ turnL (P (k + 1)) Q (b γ ls)) ∨ (t γ = .ok false ∧ Q (.nx γ ls))) : Q o := by
  have key : ∀ (m k : Nat) γ ls, N + 1 < m + k → P k γ ls → Q (whileL t b m γ ls) := fun m => by
    induction m with
    | zero =>
      intro k γ ls hm hp
      have := hb k γ ls hp
      omega
    | succ m ih =>
      intro k γ ls hm hp
      unfold whileL
      rcases step k γ ls hp with ⟨h1, h2⟩ | ⟨h1, h2⟩
      · rw [h1]
        dsimp only
        rw [if_pos rfl]
        cases hb2 : b γ ls with
        | nx γ2 ls2 => rw [hb2] at h2; exact ih (k + 1) γ2 ls2 (by omega) h2
        | ct γ2 ls2 => rw [hb2] at h2; exact ih (k + 1) γ2 ls2 (by omega) h2
        | bk γ2 ls2 => rw [hb2] at h2; exact h2
        | rt d ls2 => rw [hb2] at h2; exact h2
        | no => rw [hb2] at h2; exact h2.elim
      · rw [h1]
        dsimp only
        rw [if_neg (by decide)]
        exact h2
  rw [← hf]
  refine key FUEL 0 γ ls ?_ h0
  have : (1000000000000000000000000000000 : Nat) < FUEL - 1 := by unfold FUEL; decide
  omega
@[simp] theorem sameA_adr {q : Addr} {i : Nat} {γ γ' : Env} (h : γ[i]? = some (some (adr q))) (h' : γ'[i]? = some (some (adr q))) : sameA i γ γ' = true := by
  unfold sameA
  rw [h, h']
  exact decide_eq_true rfl
def thnL (o : OutL) (g : Env → List D → OutL) : OutL := match o with
  | .nx γ ls => g γ ls
  | o => o
@[simp] theorem seqL_thn (f g : Env → List D → OutL) (γ : Env) (ls : List D) : seqL f g γ ls = thnL (f γ ls) g := by
  unfold seqL thnL
  cases f γ ls <;> rfl
@[simp] theorem thnL_nx (γ : Env) (ls : List D) (g : Env → List D → OutL) : thnL (.nx γ ls) g = g γ ls := Eq.trans (Eq.refl _) rfl
@[simp] theorem thnL_rt (d : D) (ls : List D) (g : Env → List D → OutL) : thnL (.rt d ls) g = .rt d ls := Eq.trans (Eq.refl _) rfl
@[simp] theorem liftO_rt (i : Nat) (γ : Env) (d : D) (ls : List D) : liftO i γ (.rt d) ls = .rt d ls := Eq.trans (Eq.refl _) rfl
theorem liftO_nx {q : Addr} (i : Nat) (γ γ' : Env) (ls : List D) (h : γ[i]? = some (some (adr q))) (h' : γ'[i]? = some (some (adr q))) : liftO i γ (.nx γ') ls = .nx γ' ls := by
  show (if sameA i γ γ' = true then _ else _) = _
  rw [sameA_adr h h', if_pos rfl]
@[simp] theorem ifL_eq (t : Env → Rs Bool) (f g : Env → List D → OutL) (γ : Env) (ls : List D) : ifL t f g γ ls = match t γ with
  | .ok b => if b = true then f γ ls else g γ ls
  | _ => .no := Eq.trans (Eq.refl _) rfl
@[simp] theorem appL_eq (i : Nat) (fe : Env → Rs D) (γ : Env) (ls : List D) : appL i fe γ ls = match fe γ with
  | .ok d => if ls.length < LIM then .nx γ (ls ++ [d]) else .no
  | _ => .no := Eq.trans (Eq.refl _) rfl
@[simp] theorem turnL_nx (P : Env → List D → Prop) (Q : OutL → Prop) (γ : Env) (ls : List D) : turnL P Q (.nx γ ls) = P γ ls := Eq.trans (Eq.refl _) rfl
@[simp] theorem turnL_rt (P : Env → List D → Prop) (Q : OutL → Prop) (d : D) (ls : List D) : turnL P Q (.rt d ls) = Q (.rt d ls) := Eq.trans (Eq.refl _) rfl
end DL
set_option Elab.async false
set_option linter.all false
set_option maxRecDepth 100000
set_option maxHeartbeats 1000000
/-! Plain: the tokens of a text. -/
namespace DL
open PySem PySem.Spec PyProof.Rows L2
local macro_rules | `(tactic| trivial) => `(tactic| first | omega | (simp; done))

@[simp] theorem ok_kd (k : Nat) (v : Tv) : Ok k (.str v.kd) := v.ok.1.mono (Nat.zero_le k)
@[simp] theorem ok_vl (k : Nat) (v : Tv) : Ok k v.vl := v.ok.2.mono (Nat.zero_le k)
/-- what the loop's body does at a place -/
def bdy : Env → List D → OutL := seqL (fun γ ls => liftO 2 γ ((ifS (b1 (b2 (b2 (eV 0) (eV 3) ixD) (eC (.str "#")) eqD) boolO) (sRet (eC (.int 0))) (sNx)) γ) ls) (ifL (b1 (b2 (b2 (eV 0) (eV 3) ixD) (eC (.str " ")) eqD) boolO) (fun γ ls => liftO 2 γ ((sAug 3 (eC (.int 1)) addA) γ) ls) (seqL (fun γ ls => liftO 2 γ ((sSet 4 (cF 2 (aC (eV 0) (aC (eV 3) (aN))) F_token_at)) γ) ls) (seqL (fun γ ls => liftO 2 γ ((ifS (b1 (b1 (eV 4) fun d => some (.bool (isNoneD d))) boolO) (sRet (b2 (eV 3) (eC (.int 1)) addD)) (sNx)) γ) ls) (seqL (appL 2 (eT (aC (b2 (eV 4) (eC (.int 0)) ixD) (aC (b2 (eV 4) (eC (.int 1)) ixD) (aC (eV 1) (aC (b2 (eV 3) (eC (.int 1)) addD) (aN))))))) (fun γ ls => liftO 2 γ ((sSet 3 (b2 (eV 4) (eC (.int 2)) ixD)) γ) ls)))))
section
variable {q : Addr} {t : Tx} {n i : Nat} {x : Option D} {ls : List D} {c : Nat} {s : List Nat}
abbrev sl (q : Addr) (t : Tx) (n i : Nat) (x : Option D) : Env := [some (.str t.s), some (.int n), some (adr q), some (.int i), x]
theorem chr_at (h : t.l.drop i = c :: s) (hl : t.l.length ≤ 1000000) (hi : i ≤ t.l.length) : ixD (.str t.s) (.int (i : Int)) = some (.str ⟨#[c]⟩) ∧ i < t.l.length ∧ c < 0x110000 := by
  have hlen := suf_len h hi
  rw [List.length_cons] at hlen
  have ix := ixD_tx t i (by omega) hl
  have hb := tx_lt t i (by omega)
  have hc : t.l.getD i 0 = c := by
    have := suf_get h 0
    rw [Nat.add_zero] at this
    exact this
  rw [hc] at ix hb
  exact ⟨ix, by omega, hb⟩
theorem bdy_com (h : t.l.drop i = 35 :: s) (hl : t.l.length ≤ 1000000) (hi : i ≤ t.l.length) : bdy (sl q t n i x) ls = .rt (.int 0) ls := by
  obtain ⟨ix, h1, h2⟩ := chr_at h hl hi
  have e := eq_chr 35 35 "#" (by decide) h2 (by decide)
  have a : (ifS (b1 (b2 (b2 (eV 0) (eV 3) ixD) (eC (.str "#")) eqD) boolO) (sRet (eC (.int 0))) (sNx)) (sl q t n i x) = .rt (.int 0) := by simp [ix, e]
  unfold bdy
  rw [seqL_thn, a]
  rfl
theorem nohash (h : t.l.drop i = c :: s) (hl : t.l.length ≤ 1000000) (hi : i ≤ t.l.length) (hc : c ≠ 35) : bdy (sl q t n i x) ls = (ifL (b1 (b2 (b2 (eV 0) (eV 3) ixD) (eC (.str " ")) eqD) boolO) (fun γ ls => liftO 2 γ ((sAug 3 (eC (.int 1)) addA) γ) ls) (seqL (fun γ ls => liftO 2 γ ((sSet 4 (cF 2 (aC (eV 0) (aC (eV 3) (aN))) F_token_at)) γ) ls) (seqL (fun γ ls => liftO 2 γ ((ifS (b1 (b1 (eV 4) fun d => some (.bool (isNoneD d))) boolO) (sRet (b2 (eV 3) (eC (.int 1)) addD)) (sNx)) γ) ls) (seqL (appL 2 (eT (aC (b2 (eV 4) (eC (.int 0)) ixD) (aC (b2 (eV 4) (eC (.int 1)) ixD) (aC (eV 1) (aC (b2 (eV 3) (eC (.int 1)) addD) (aN))))))) (fun γ ls => liftO 2 γ ((sSet 3 (b2 (eV 4) (eC (.int 2)) ixD)) γ) ls))))) (sl q t n i x) ls := by
  obtain ⟨ix, h1, h2⟩ := chr_at h hl hi
  have e := eq_chr c 35 "#" (by decide) h2 (by decide)
  rw [decide_eq_false hc] at e
  have a : (ifS (b1 (b2 (b2 (eV 0) (eV 3) ixD) (eC (.str "#")) eqD) boolO) (sRet (eC (.int 0))) (sNx)) (sl q t n i x) = .nx (sl q t n i x) := by simp [ix, e]
  unfold bdy
  rw [seqL_thn, a, liftO_nx 2 _ _ ls rfl rfl, thnL_nx]
theorem bdy_sp (h : t.l.drop i = 32 :: s) (hl : t.l.length ≤ 1000000) (hi : i ≤ t.l.length) : bdy (sl q t n i x) ls = .nx (sl q t n (i + 1) x) ls := by
  rw [nohash h hl hi (by decide)]
  obtain ⟨ix, h1, h2⟩ := chr_at h hl hi
  have e := eq_chr 32 32 " " (by decide) h2 (by decide)
  have a : (b1 (b2 (b2 (eV 0) (eV 3) ixD) (eC (.str " ")) eqD) boolO) (sl q t n i x) = .ok true := by simp [ix, e]
  have b : (sAug 3 (eC (.int 1)) addA) (sl q t n i x) = .nx (sl q t n (i + 1) x) := by simp
  rw [ifL_eq, a]
  dsimp only
  rw [if_pos rfl, b, liftO_nx 2 _ _ ls rfl rfl]
theorem bdy_tok (h : t.l.drop i = c :: s) (hl : t.l.length ≤ 1000000) (hi : i ≤ t.l.length) (hc : c ≠ 35) (hc2 : c ≠ 32) (v : Option (Tv × Nat)) (ht : F_token_at [.str t.s, .int i] = .ok (encTA v)) (hll : ls.length < 1000000) :
    bdy (sl q t n i x) ls = match v with
      | none => .rt (.int (i + 1 : Nat)) ls
      | some (v, e) => .nx (sl q t n e (some (encTA (some (v, e))))) (ls ++ [E (⟨v, n, i + 1⟩ : Tk)]) := by
  rw [nohash h hl hi hc]
  obtain ⟨ix, h1, h2⟩ := chr_at h hl hi
  have e := eq_chr c 32 " " (by decide) h2 (by decide)
  rw [decide_eq_false hc2] at e
  have a : (b1 (b2 (b2 (eV 0) (eV 3) ixD) (eC (.str " ")) eqD) boolO) (sl q t n i x) = .ok false := by simp [ix, e]
  have b : (sSet 4 (cF 2 (aC (eV 0) (aC (eV 3) (aN))) F_token_at)) (sl q t n i x) = .nx (sl q t n i (some (encTA v))) := by simp [ht]
  rw [ifL_eq, a]
  dsimp only
  rw [if_neg (by decide), seqL_thn, b, liftO_nx 2 _ _ ls rfl rfl, thnL_nx, seqL_thn]
  cases v with
  | none =>
    have d : (ifS (b1 (b1 (eV 4) fun d => some (.bool (isNoneD d))) boolO) (sRet (b2 (eV 3) (eC (.int 1)) addD)) (sNx)) (sl q t n i (some (encTA none))) = .rt (.int (i + 1 : Nat)) := by simp [encTA, isNoneD]
    rw [d]
    rfl
  | some ve =>
    obtain ⟨v, e⟩ := ve
    have d : (ifS (b1 (b1 (eV 4) fun d => some (.bool (isNoneD d))) boolO) (sRet (b2 (eV 3) (eC (.int 1)) addD)) (sNx)) (sl q t n i (some (encTA (some (v, e))))) = .nx (sl q t n i (some (encTA (some (v, e))))) := by simp [encTA, isNoneD]
    rw [d, liftO_nx 2 _ _ ls rfl rfl, thnL_nx, seqL_thn]
    have i0 : ixD (encTA (some (v, e))) (.int 0) = some (.str v.kd) := rfl
    have i1 : ixD (encTA (some (v, e))) (.int 1) = some v.vl := rfl
    have i2 : ixD (encTA (some (v, e))) (.int 2) = some (.int (e : Int)) := rfl
    have g : (eT (aC (b2 (eV 4) (eC (.int 0)) ixD) (aC (b2 (eV 4) (eC (.int 1)) ixD) (aC (eV 1) (aC (b2 (eV 3) (eC (.int 1)) addD) (aN)))))) (sl q t n i (some (encTA (some (v, e))))) = .ok (E (⟨v, n, i + 1⟩ : Tk)) := by
      simp [i0, i1]
      rw [szT_ok (by simp [LIM])]
      simp [E_tk]
    have k : (sSet 3 (b2 (eV 4) (eC (.int 2)) ixD)) (sl q t n i (some (encTA (some (v, e))))) = .nx (sl q t n e (some (encTA (some (v, e))))) := by simp [i2]
    rw [appL_eq, g]
    dsimp only
    rw [if_pos (show ls.length < LIM from hll), thnL_nx, k, liftO_nx 2 _ _ _ rfl rfl]
end
theorem bdy_eq : gW_scan_line = seqL (fun γ ls => liftO 2 γ ((sSet 3 (eC (.int 0))) γ) ls) (seqL (fun γ ls => whileL (b1 (b2 (eV 3) (cB (aC (eV 0) (aN)) lenD) ltD) boolO) bdy FUEL γ ls) (fun γ ls => liftO 2 γ ((sRet (eC (.int 0))) γ) ls)) := rfl
def PSc (q : Addr) (t : Tx) (n f : Nat) (all : List Tk) (a0 : Nat) (k : Nat) (γ : Env) (ls : List D) : Prop := ∃ (i : Nat) (ts acc : List Tk) (x : Option D), k ≤ i ∧ i ≤ t.l.length ∧ LTk n (t.l.drop i) (i + 1) ts f ∧ acc ++ ts = all ∧ γ = sl q t n i x ∧ ls = Ls acc ∧ acc.length ≤ a0 + i
def QSc (q : Addr) (t : Tx) (n f : Nat) (all : List Tk) (o : OutL) : Prop := o = .rt (.int f) (Ls all) ∨ (f = 0 ∧ ∃ i x, o = .nx (sl q t n i x) (Ls all))
theorem dg_c {c : Nat} (h : isDg c = true) : c ≠ 35 ∧ c ≠ 32 := by
  unfold isDg at h
  simp only [Bool.and_eq_true, decide_eq_true_eq] at h
  omega
theorem lt_c {c : Nat} (h : isLt c = true) : c ≠ 35 ∧ c ≠ 32 := by
  unfold isLt at h
  simp only [Bool.and_eq_true, decide_eq_true_eq] at h
  omega
theorem sgn_c {c : Nat} (h : c ∈ sgn) : c ≠ 35 ∧ c ≠ 32 ∧ isDg c = false ∧ isLt c = false ∧ c < 0x110000 := by
  have : sgn.all (fun c => decide (c ≠ 35 ∧ c ≠ 32 ∧ isDg c = false ∧ isLt c = false ∧ c < 0x110000)) = true := by decide
  exact of_decide_eq_true (List.all_eq_true.mp this c h)
theorem app_cons {w s : List Nat} (h : w ≠ []) : ∃ c s', w ++ s = c :: s' ∧ c = w.getD 0 0 := by
  cases w with
  | nil => exact absurd rfl h
  | cons a w => exact ⟨a, w ++ s, rfl, rfl⟩
theorem scanl_E (q : Addr) (t : Tx) (n f : Nat) (acc ts : List Tk) (h : LTk n t.l 1 ts f) (hl : t.l.length ≤ 100000) (ha : acc.length ≤ 500000) : FW_scan_line q (Ls acc) [.str t.s, .int n] = .ok (.int f, Ls (acc ++ ts)) := by
  show callW 5 gW_scan_line q (Ls acc) [.str t.s, .int n] = _
  unfold callW
  have key : gW_scan_line [some (.str t.s), some (.int n), some (adr q), none, none] (Ls acc) = .rt (.int f) (Ls (acc ++ ts)) := by
    rw [bdy_eq, seqL_thn]
    have a : (sSet 3 (eC (.int 0))) [some (.str t.s), some (.int n), some (adr q), none, none] = .nx (sl q t n 0 none) := by simp
    rw [a, liftO_nx 2 _ _ _ rfl rfl, thnL_nx, seqL_thn]
    generalize hf : whileL _ _ _ _ _ = o
    have ln := lenD_tx t (by omega)
    have := whileL_turns hf (PSc q t n f (acc ++ ts) acc.length) (QSc q t n f (acc ++ ts)) t.l.length (by omega) ⟨0, ts, acc, none, by omega, by omega, by simpa using h, rfl, rfl, rfl, by omega⟩ (fun k γ ls ⟨i, _, _, _, h1, h2, _⟩ => by omega) (by
      rintro k γ ls ⟨i, ts', acc', x, h1, h2, h3, h4, rfl, rfl, h5⟩
      have hll : (Ls acc').length < 1000000 := by rw [Ls_length]; omega
      generalize hs : t.l.drop i = s at h3
      have tst : ∀ c s', s = c :: s' → (b1 (b2 (eV 3) (cB (aC (eV 0) (aN)) lenD) ltD) boolO) (sl q t n i x) = .ok true := fun c s' e => by
        subst e
        have := (chr_at hs (by omega) h2).2.1
        simp [ln, this]
      have nxt : ∀ (v : Tv) (m : Nat) (s' : List Nat) (ts2 : List Tk), 0 < m → t.l.drop (i + m) = s' → i + m ≤ t.l.length → LTk n s' (i + 1 + m) ts2 f → acc' ++ ⟨v, n, i + 1⟩ :: ts2 = acc ++ ts → turnL (PSc q t n f (acc ++ ts) acc.length (k + 1)) (QSc q t n f (acc ++ ts)) (.nx (sl q t n (i + m) (some (encTA (some (v, i + m))))) (Ls acc' ++ [E (⟨v, n, i + 1⟩ : Tk)])) := fun v m s' ts2 hm hd hle hL he => by
        refine ⟨i + m, ts2, acc' ++ [⟨v, n, i + 1⟩], _, by omega, hle, ?_, by rw [List.append_assoc]; exact he, rfl, by rw [Ls_snoc], by rw [List.length_append, List.length_cons, List.length_nil]; omega⟩
        rw [hd, show i + m + 1 = i + 1 + m by omega]
        exact hL
      have dropm : ∀ (w s' : List Nat), s = w ++ s' → t.l.drop (i + w.length) = s' ∧ i + w.length ≤ t.l.length := fun w s' e => by
        subst e
        have hlen := suf_len hs h2
        rw [List.length_append] at hlen
        refine ⟨?_, by omega⟩
        rw [← List.drop_drop, hs, List.drop_left' rfl]
      cases h3 with
      | nil =>
        right
        have hlen := suf_len hs h2
        rw [List.length_nil] at hlen
        have : ¬ ((i : Int) < t.l.length) := by omega
        refine ⟨by simp [ln, this], .inr ⟨rfl, i, x, ?_⟩⟩
        rw [← h4, List.append_nil]
      | @com _ c =>
        left
        refine ⟨tst _ _ rfl, ?_⟩
        rw [bdy_com hs (by omega) h2]
        left
        rw [← h4, List.append_nil]
        rfl
      | @sp s' _ _ _ hL =>
        left
        refine ⟨tst _ _ rfl, ?_⟩
        rw [bdy_sp hs (by omega) h2]
        obtain ⟨d1, d2⟩ := dropm [32] s' rfl
        refine ⟨i + 1, ts', acc', x, by omega, d2, ?_, h4, rfl, rfl, by omega⟩
        have d1 : t.l.drop (i + 1) = s' := d1
        rw [d1]
        exact hL
      | @word s' _ ts2 _ w w0 w1 w2 w3 hL =>
        left
        obtain ⟨c, s2, e1, e2⟩ := app_cons (s := s') w0
        refine ⟨tst _ _ e1, ?_⟩
        have tk := tok_word w hs (by omega) h2 w0 w1 w2 w3
        rw [← e2] at w1
        rw [bdy_tok (hs.trans e1) (by omega) h2 (lt_c w1).1 (lt_c w1).2 _ tk hll]
        obtain ⟨d1, d2⟩ := dropm w.l s' rfl
        exact nxt _ _ s' ts2 (List.length_pos_iff.mpr w0) d1 d2 hL h4
      | @num s' _ ts2 _ d v w0 w1 w2 w3 hL =>
        left
        obtain ⟨c, s2, e1, e2⟩ := app_cons (s := s') w0
        refine ⟨tst _ _ e1, ?_⟩
        have tk := tok_dig d hs (by omega) h2 w0 w1 (w3.imp id fun z => z.1)
        rw [w2] at tk
        have hn : ¬ (s' ≠ [] ∧ isAn (s'.getD 0 0) = true) := fun ⟨z1, z2⟩ => by
          rcases w3 with w3 | w3
          · exact z1 w3
          · rw [w3.2] at z2; cases z2
        dsimp only at tk
        rw [if_neg hn] at tk
        have hc : isDg c = true := by
          rw [e2]
          cases d with
          | nil => exact absurd rfl w0
          | cons a d => rw [List.all_cons, Bool.and_eq_true] at w1; exact w1.1
        rw [bdy_tok (hs.trans e1) (by omega) h2 (dg_c hc).1 (dg_c hc).2 _ tk hll]
        obtain ⟨d1, d2⟩ := dropm d s' rfl
        exact nxt _ _ s' ts2 (List.length_pos_iff.mpr w0) d1 d2 hL h4
      | @sign s' _ ts2 _ c hm hL =>
        left
        refine ⟨tst _ _ rfl, ?_⟩
        obtain ⟨c1, c2, c3, c4, c5⟩ := sgn_c hm
        have tk := tok_sign c hs (by omega) h2 c3 c4
        rw [if_pos hm] at tk
        rw [bdy_tok hs (by omega) h2 c1 c2 _ tk hll]
        obtain ⟨d1, d2⟩ := dropm [c] s' rfl
        exact nxt _ 1 s' ts2 (by omega) d1 d2 hL h4
      | @bad s' _ c c1 c2 c3 c4 c5 =>
        left
        refine ⟨tst _ _ rfl, ?_⟩
        have tk := tok_sign c hs (by omega) h2 c3 c4
        rw [if_neg c5] at tk
        rw [bdy_tok hs (by omega) h2 c1 c2 none tk hll]
        left
        rw [← h4, List.append_nil]
      | @badn s' _ d w0 w1 w2 w3 =>
        left
        obtain ⟨c, s2, e1, e2⟩ := app_cons (s := s') w0
        refine ⟨tst _ _ e1, ?_⟩
        have tk := tok_dig d hs (by omega) h2 w0 w1 w2
        have tk2 : F_token_at [.str t.s, .int i] = .ok (encTA none) := by
          rw [tk]
          rcases w3 with w3 | w3
          · rw [w3]; rfl
          · cases numO d with
            | none => rfl
            | some v => dsimp only; rw [if_pos w3]; rfl
        have hc : isDg c = true := by
          rw [e2]
          cases d with
          | nil => exact absurd rfl w0
          | cons a d => rw [List.all_cons, Bool.and_eq_true] at w1; exact w1.1
        rw [bdy_tok (hs.trans e1) (by omega) h2 (dg_c hc).1 (dg_c hc).2 none tk2 hll]
        left
        rw [← h4, List.append_nil])
    rcases this with rfl | ⟨rfl, i, x, rfl⟩
    · rfl
    · have : (sRet (eC (.int 0))) (sl q t n i x) = .rt (.int 0) := by simp
      rw [thnL_nx, this]
      rfl
  show (match gW_scan_line [some (.str t.s), some (.int n), some (adr q), none, none] (Ls acc) with
    | .rt d ls' => Rs.ok (d, ls')
    | .nx _ ls' => .ok (.none, ls')
    | _ => .no) = _
  rw [key]
end DL
set_option Elab.async false
set_option linter.all false
set_option maxRecDepth 100000
set_option maxHeartbeats 1000000
/-! Plain: the lines of a text. -/
namespace DL
open PySem PySem.Spec PyProof.Rows L2
local macro_rules | `(tactic| trivial) => `(tactic| first | omega | (simp; done))

/-- the lines of a text -/
def lns10 : List Nat → List (List Nat)
  | [] => [[]]
  | c :: r => if c = 10 then [] :: lns10 r else match lns10 r with
    | a :: b => (c :: a) :: b
    | [] => [[c]]
theorem lns10_ne : ∀ l, lns10 l ≠ []
  | [] => by simp [lns10]
  | c :: r => by
    unfold lns10
    split
    · simp
    · split <;> simp
theorem lns10_nl (r : List Nat) : lns10 (10 :: r) = [] :: lns10 r := by
  show (if 10 = 10 then _ else _) = _
  rw [if_pos rfl]
theorem lns10_c {c : Nat} {r : List Nat} {a : List Nat} {b : List (List Nat)} (hc : c ≠ 10) (h : lns10 r = a :: b) : lns10 (c :: r) = (c :: a) :: b := by
  show (if c = 10 then _ else _) = _
  rw [if_neg hc, h]
theorem lns10_app {r a : List Nat} {b : List (List Nat)} (h : lns10 r = a :: b) : ∀ w : List Nat, (∀ c ∈ w, c ≠ 10) → lns10 (w ++ r) = (w ++ a) :: b
  | [], _ => h
  | c :: w, hw => lns10_c (hw c List.mem_cons_self) (lns10_app h w fun c hc => hw c (List.mem_cons_of_mem _ hc))
/-- the head of the first line is the head of the text -/
theorem lns10_hd {r a : List Nat} {b : List (List Nat)} (h : lns10 r = a :: b) : (r = [] → a = []) ∧ (∀ (_ : Nat) r', r = 10 :: r' → a = []) ∧ (∀ c r', r = c :: r' → c ≠ 10 → a.getD 0 0 = c ∧ a ≠ []) := by
  refine ⟨fun e => ?_, fun _ r' e => ?_, fun c r' e hc => ?_⟩
  · subst e
    have : lns10 [] = [[]] := rfl
    rw [this] at h
    injection h with h1 h2
    exact h1.symm
  · subst e
    rw [lns10_nl] at h
    injection h with h1 h2
    exact h1.symm
  · subst e
    obtain ⟨a', b', e'⟩ : ∃ a' b', lns10 r' = a' :: b' := by
      cases hh : lns10 r' with
      | nil => exact absurd hh (lns10_ne _)
      | cons a' b' => exact ⟨a', b', rfl⟩
    rw [lns10_c hc e'] at h
    injection h with h1 h2
    subst h1
    exact ⟨rfl, by simp⟩
theorem spl10 : ∀ (l acc : List Nat), TL.spl [10] 0 acc l = (match lns10 l with
    | a :: b => (acc ++ a) :: b
    | [] => [])
  | [], acc => by
    rw [TL.spl_nil]
    show [acc] = [acc ++ []]
    rw [List.append_nil]
  | c :: r, acc => by
    by_cases hc : c = 10
    · subst hc
      rw [TL.spl_hit rfl, lns10_nl]
      show acc :: TL.spl [10] 0 [] r = _
      rw [spl10 r []]
      dsimp only
      rw [List.append_nil]
      cases h : lns10 r with
      | nil => exact absurd h (lns10_ne r)
      | cons a b => rfl
    · have : TL.pre [10] (c :: r) = false := by
        show ((c :: r).take 1 == [10]) = false
        rw [beq_eq_false_iff_ne]
        intro e
        simp at e
        exact hc e
      rw [TL.spl_miss this, spl10 r]
      cases h : lns10 r with
      | nil => exact absurd h (lns10_ne r)
      | cons a b =>
        rw [lns10_c hc h]
        dsimp only
        rw [List.append_assoc]
        rfl
/-! tokens of a text -/
inductive Tks : List Nat → Nat → Nat → List Tk → Prop
  | fin {n col} : Tks [] n col [⟨.fin, n, col⟩]
  | nl {s n col ts} : Tks s (n + 1) 1 ts → Tks (10 :: s) n col ts
  | sp {s n col ts} : Tks s n (col + 1) ts → Tks (32 :: s) n col ts
  | com {s n col ts} (c : List Nat) : (∀ x ∈ c, x ≠ 10) → (s = [] ∨ ∃ r, s = 10 :: r) → Tks s n (col + 1 + c.length) ts → Tks (35 :: (c ++ s)) n col ts
  | word {s n col ts} (w : Tx) : w.l ≠ [] → isLt (w.l.getD 0 0) = true → w.l.all isLd = true → (s = [] ∨ isLd (s.getD 0 0) = false) → Tks s n (col + w.l.length) ts → Tks (w.l ++ s) n col (⟨.word w, n, col⟩ :: ts)
  | num {s n col ts} (d : List Nat) (v : Nat) : d ≠ [] → d.all isDg = true → numO d = some v → (s = [] ∨ (isDg (s.getD 0 0) = false ∧ isAn (s.getD 0 0) = false)) → Tks s n (col + d.length) ts → Tks (d ++ s) n col (⟨.num v, n, col⟩ :: ts)
  | sign {s n col ts} (c : Nat) : c ∈ sgn → Tks s n (col + 1) ts → Tks (c :: s) n col (⟨.sign (chN c), n, col⟩ :: ts)
  | bad {s n col} (c : Nat) : c ≠ 10 → c ≠ 35 → c ≠ 32 → isDg c = false → isLt c = false → c ∉ sgn → Tks (c :: s) n col [⟨.flt, n, col⟩]
  | badn {s n col} (d : List Nat) : d ≠ [] → d.all isDg = true → (s = [] ∨ isDg (s.getD 0 0) = false) → (numO d = none ∨ (s ≠ [] ∧ isAn (s.getD 0 0) = true)) → Tks (d ++ s) n col [⟨.flt, n, col⟩]
/-- .. line by line -/
inductive Lks : List (List Nat) → Nat → Nat → List Tk → Prop
  | last {l n col ts} : LTk n l col ts 0 → Lks [l] n col (ts ++ [⟨.fin, n, col + l.length⟩])
  | more {l r n col ts ts'} : LTk n l col ts 0 → r ≠ [] → Lks r (n + 1) 1 ts' → Lks (l :: r) n col (ts ++ ts')
  | bad {l r n col ts f} : LTk n l col ts f → 0 < f → Lks (l :: r) n col (ts ++ [⟨.flt, n, f⟩])
/-- something ahead in a line -/
theorem Lks.pre {a : List Nat} {b : List (List Nat)} {n col col' : Nat} {ts : List Tk} (w : List Nat) (us : List Tk) (hw : col' + w.length = col) (h : Lks (a :: b) n col ts) (hl : ∀ ts f, LTk n a col ts f → LTk n (w ++ a) col' (us ++ ts) f) : Lks ((w ++ a) :: b) n col' (us ++ ts) := by
  cases h with
  | last h1 =>
    have := Lks.last (hl _ _ h1)
    rw [List.append_assoc, List.length_append, ← Nat.add_assoc, hw] at this
    exact this
  | more h1 hr h2 =>
    have := Lks.more (hl _ _ h1) hr h2
    rw [List.append_assoc] at this
    exact this
  | bad h1 hf =>
    have := Lks.bad (r := b) (hl _ _ h1) hf
    rw [List.append_assoc] at this
    exact this
theorem LTk.inv_nil {n : Nat} {s : List Nat} {col : Nat} {ts : List Tk} {f : Nat} (h : LTk n s col ts f) (e : s = []) : ts = [] ∧ f = 0 := by
  cases h with
  | nil => exact ⟨rfl, rfl⟩
  | com => cases e
  | sp h => cases e
  | word w w0 => exact absurd (List.append_eq_nil_iff.mp e).1 w0
  | num d v w0 => exact absurd (List.append_eq_nil_iff.mp e).1 w0
  | sign c => cases e
  | bad c => cases e
  | badn d w0 => exact absurd (List.append_eq_nil_iff.mp e).1 w0
theorem isLd_10 : isLd 10 = false := by decide
theorem all_10 (p : Nat → Bool) (hp : p 10 = false) {w : List Nat} (h : w.all p = true) : ∀ c ∈ w, c ≠ 10 := fun c hc e => by
  subst e
  have := List.all_eq_true.mp h 10 hc
  rw [hp] at this
  cases this
theorem lns10_ex (s : List Nat) : ∃ a b, lns10 s = a :: b := by
  cases h : lns10 s with
  | nil => exact absurd h (lns10_ne s)
  | cons a b => exact ⟨a, b, rfl⟩
/-- what may follow in the text may follow in the line -/
theorem hd_ok (p : Nat → Prop) {s a : List Nat} {b : List (List Nat)} (h : lns10 s = a :: b) (hs : s = [] ∨ p (s.getD 0 0)) : a = [] ∨ p (a.getD 0 0) := by
  obtain ⟨h1, h2, h3⟩ := lns10_hd h
  cases s with
  | nil => exact .inl (h1 rfl)
  | cons c r =>
    by_cases hc : c = 10
    · subst hc; exact .inl (h2 0 r rfl)
    · rcases hs with hs | hs
      · cases hs
      · exact .inr (by rw [(h3 c r rfl hc).1]; exact hs)
theorem Tks.lines {l : List Nat} {n col : Nat} {ts : List Tk} (h : Tks l n col ts) (hcol : 0 < col) : Lks (lns10 l) n col ts := by
  induction h with
  | fin => exact Lks.last (l := []) (ts := []) .nil
  | nl h ih =>
    rw [lns10_nl]
    exact Lks.more (ts := []) .nil (lns10_ne _) (ih (by omega))
  | @sp s n col ts h ih =>
    obtain ⟨a, b, e⟩ := lns10_ex s
    rw [lns10_c (by decide) e]
    have ih := ih (by omega)
    rw [e] at ih
    exact ih.pre [32] [] rfl fun ts f h => .sp h
  | @com s n col ts c hc hs h ih =>
    obtain ⟨a, b, e⟩ := lns10_ex s
    have ih := ih (by omega)
    rw [e] at ih
    obtain ⟨h1, h2, h3⟩ := lns10_hd e
    have ha : a = [] := by
      rcases hs with rfl | ⟨r, rfl⟩
      · exact h1 rfl
      · exact h2 0 r rfl
    subst ha
    rw [show 35 :: (c ++ s) = (35 :: c) ++ s from rfl, lns10_app e (35 :: c) (by
      intro x hx
      rcases List.mem_cons.mp hx with rfl | hx
      · decide
      · exact hc x hx)]
    exact ih.pre (35 :: c) [] (by simp; omega) fun ts f h => by
      obtain ⟨rfl, rfl⟩ := h.inv_nil rfl
      exact .com
  | @word s n col ts w w0 w1 w2 w3 h ih =>
    obtain ⟨a, b, e⟩ := lns10_ex s
    have ih := ih (by omega)
    rw [e] at ih
    rw [lns10_app e w.l (all_10 isLd isLd_10 w2)]
    exact ih.pre w.l [_] rfl fun ts f h => .word w w0 w1 w2 (hd_ok (fun c => isLd c = false) e w3) h
  | @num s n col ts d v w0 w1 w2 w3 h ih =>
    obtain ⟨a, b, e⟩ := lns10_ex s
    have ih := ih (by omega)
    rw [e] at ih
    rw [lns10_app e d (all_10 isDg (by decide) w1)]
    exact ih.pre d [_] rfl fun ts f h => .num d v w0 w1 w2 (hd_ok (fun c => isDg c = false ∧ isAn c = false) e w3) h
  | @sign s n col ts c hm h ih =>
    obtain ⟨a, b, e⟩ := lns10_ex s
    have ih := ih (by omega)
    rw [e] at ih
    have hc : c ≠ 10 := fun z => by subst z; exact absurd hm (by decide)
    rw [lns10_c hc e]
    exact ih.pre [c] [_] rfl fun ts f h => .sign c hm h
  | @bad s n col c h0 h1 h2 h3 h4 h5 =>
    obtain ⟨a, b, e⟩ := lns10_ex s
    rw [lns10_c h0 e]
    exact Lks.bad (ts := []) (.bad c h1 h2 h3 h4 h5) hcol
  | @badn s n col d w0 w1 w2 w3 =>
    obtain ⟨a, b, e⟩ := lns10_ex s
    rw [lns10_app e d (all_10 isDg (by decide) w1)]
    refine Lks.bad (ts := []) (.badn d w0 w1 (hd_ok (fun c => isDg c = false) e w2) (w3.imp id fun ⟨z1, z2⟩ => ?_)) hcol
    obtain ⟨h1, h2, h3⟩ := lns10_hd e
    cases s with
    | nil => exact absurd rfl z1
    | cons c r =>
      have hc : c ≠ 10 := fun z => by
        subst z
        have z2 : isAn 10 = true := z2
        exact absurd z2 (by decide)
      obtain ⟨y1, y2⟩ := h3 c r rfl hc
      exact ⟨y2, by rw [y1]; exact z2⟩
end DL
set_option Elab.async false
set_option linter.all false
set_option maxRecDepth 100000
set_option maxHeartbeats 1000000
/-! Plain: the tokens of a text, as the program finds them. -/
namespace DL
open PySem PySem.Spec PyProof.Rows L2
local macro_rules | `(tactic| trivial) => `(tactic| first | omega | (simp; done))

/-- the lines, typed -/
theorem tx_lines (t : Tx) (hl : t.l.length ≤ 100000) : ∃ ls : List Tx, ls.map Tx.l = lns10 t.l ∧ splitN (.str t.s) (.str (Str.ofString "\n")) = some (Ls ls) ∧ (∀ l ∈ ls, l.l.length ≤ t.l.length) ∧ ls.length ≤ t.l.length + 1 := by
  have e0 : Str.ofString "\n" = ⟨#[10]⟩ := by decide
  have hk : ¬ Builtin.Str.strKind t.s < Builtin.Str.strKind (Str.ofString "\n") := by
    rw [show Builtin.Str.strKind (Str.ofString "\n") = 1 by rw [e0]; decide +kernel]
    unfold Builtin.Str.strKind
    split
    · omega
    · split <;> omega
  have h := TL.split_spl t.s (Str.ofString "\n") (by rw [e0]; decide) hk
  have h2 : TL.spl (TL.tl (Str.ofString "\n")) 0 [] (TL.tl t.s) = lns10 t.l := by
    have : TL.tl t.s = t.l := Tx.cps t
    rw [this, e0]
    show TL.spl [10] 0 [] t.l = _
    rw [spl10]
    obtain ⟨a, b, e⟩ := lns10_ex t.l
    rw [e]
    rfl
  rw [h2] at h
  -- every line is a part of the text
  have sub : ∀ s : List Nat, ∀ l ∈ lns10 s, l.Sublist s := by
    intro s
    induction s with
    | nil => intro l hl; rw [List.mem_singleton.mp hl]; exact .refl _
    | cons c r ih =>
      intro l hl
      by_cases hc : c = 10
      · subst hc
        rw [lns10_nl] at hl
        rcases List.mem_cons.mp hl with rfl | hl
        · exact List.nil_sublist _
        · exact (ih l hl).cons _
      · obtain ⟨a, b, e⟩ := lns10_ex r
        rw [lns10_c hc e] at hl
        rw [e] at ih
        rcases List.mem_cons.mp hl with rfl | hl
        · exact (ih a List.mem_cons_self).cons_cons _
        · exact (ih l (List.mem_cons_of_mem _ hl)).cons _
  have cnt : ∀ s : List Nat, (lns10 s).length ≤ s.length + 1 := by
    intro s
    induction s with
    | nil => exact Nat.le_refl _
    | cons c r ih =>
      by_cases hc : c = 10
      · subst hc
        rw [lns10_nl, List.length_cons, List.length_cons]; omega
      · obtain ⟨a, b, e⟩ := lns10_ex r
        rw [lns10_c hc e]
        rw [e] at ih
        simp only [List.length_cons] at ih ⊢
        omega
  have mk : ∀ ys : List Str, (∀ y ∈ ys, TL.tl y ∈ lns10 t.l) → ∃ ls : List Tx, ls.map Tx.l = ys.map TL.tl ∧ ys.map PyData.str = Ls ls := by
    intro ys
    induction ys with
    | nil => intro _; exact ⟨[], rfl, rfl⟩
    | cons y ys ih =>
      intro hy
      obtain ⟨ls, e1, e2⟩ := ih fun z hz => hy z (List.mem_cons_of_mem _ hz)
      have hs := sub t.l _ (hy y List.mem_cons_self)
      refine ⟨⟨TL.tl y, ?_⟩ :: ls, by rw [List.map_cons, List.map_cons, e1], ?_⟩
      · rw [List.all_eq_true]
        intro c hc
        exact List.all_eq_true.mp t.h c (hs.subset hc)
      · rw [List.map_cons, e2]
        show _ = E _ :: Ls ls
        rw [E_tx]
        congr 2
  obtain ⟨ls, e1, e2⟩ := mk (Txt.split t.s (Str.ofString "\n")) fun y hy => by
    rw [← h]
    exact List.mem_map.mpr ⟨y, hy, rfl⟩
  refine ⟨ls, by rw [e1, h], ?_, fun l hl' => ?_, ?_⟩
  · have : t.s.length ≤ LIM := by rw [Tx.len]; show _ ≤ 1000000; omega
    show (if ((Str.ofString "\n").length == 0) = false ∧ t.s.length ≤ LIM then some ((Txt.split t.s (Str.ofString "\n")).map PyData.str) else none) = _
    rw [if_pos ⟨by rw [e0]; rfl, this⟩, e2]
  · have : l.l ∈ lns10 t.l := by rw [← h, ← e1]; exact List.mem_map.mpr ⟨l, hl', rfl⟩
    exact (sub t.l _ this).length_le
  · have := cnt t.l
    rw [← h, ← e1, List.length_map] at this
    exact this
theorem drop_getT {α : Type} (ls : List α) (i : Nat) (h : i < ls.length) : ls.drop i = ls[i] :: ls.drop (i + 1) := (List.drop_eq_getElem_cons h)
theorem Lks.len {l : List (List Nat)} {n col : Nat} {ts : List Tk} (h : Lks l n col ts) : ∃ us v c m, ts = us ++ [⟨v, m, c⟩] ∧ (v = .fin ∨ v = .flt) := by
  induction h with
  | last h => exact ⟨_, _, _, _, rfl, .inl rfl⟩
  | more h hr h2 ih =>
    obtain ⟨us, v, c, m, rfl, hv⟩ := ih
    exact ⟨_, v, c, m, (List.append_assoc _ _ _).symm, hv⟩
  | bad h hf => exact ⟨_, _, _, _, rfl, .inr rfl⟩
theorem LTk.cnt {n : Nat} {s : List Nat} {col : Nat} {ts : List Tk} {f : Nat} (h : LTk n s col ts f) : ts.length ≤ s.length := by
  induction h with
  | nil => exact Nat.le_refl _
  | com => exact Nat.zero_le _
  | sp h ih => rw [List.length_cons]; omega
  | word w w0 w1 w2 w3 h ih => have := List.length_pos_iff.mpr w0; rw [List.length_append, List.length_cons]; omega
  | num d v w0 w1 w2 w3 h ih => have := List.length_pos_iff.mpr w0; rw [List.length_append, List.length_cons]; omega
  | sign c hm h ih => rw [List.length_cons, List.length_cons]; omega
  | bad => exact Nat.zero_le _
  | badn => exact Nat.zero_le _
def PSn (t : D) (ls : List Tx) (ts : List Tk) (i : Nat) (γ : Env) : Prop := ∃ (acc : List Tk) (x y : Option D), γ = [some t, some (L ls), some (L acc), some (.int i), x, y] ∧
  (i < ls.length → ∃ ts', Lks ((ls.drop i).map Tx.l) (i + 1) 1 ts' ∧ acc ++ ts' = ts) ∧ (i = ls.length → acc ++ [⟨.fin, ls.length, 1 + (ls.getLast?.map fun t => t.l.length).getD 0⟩] = ts)
def QSn (t : D) (ls : List Tx) (ts : List Tk) (o : Out) : Prop := o = .rt (L ts) ∨ ∃ γ, o = .nx γ ∧ PSn t ls ts ls.length γ
theorem scan_E (t : Tx) (ts : List Tk) (h : Lks (lns10 t.l) 1 1 ts) (hl : t.l.length ≤ 100000) (hts : ts.length ≤ 500000) : F_scan [.str t.s] = .ok (L ts) := by
  obtain ⟨ls, e1, e2, e3, e4⟩ := tx_lines t hl
  have hne : ls ≠ [] := fun z => by
    rw [z] at e1
    exact lns10_ne _ e1.symm
  have hpos := List.length_pos_iff.mpr hne
  rw [← e1] at h
  simp [F_scan, callS_eq, g_scan, e2]
  generalize hf : forS _ _ _ _ = o
  have : QSn (.str t.s) ls ts o := for_ET hf (PSn (.str t.s) ls ts) (QSn (.str t.s) ls ts) ⟨[], none, none, rfl, fun _ => ⟨ts, by simpa using h, rfl⟩, fun z => by omega⟩ (by
    rintro i hi γ ⟨acc, x, y, rfl, p1, p2⟩
    refine ⟨_, rfl, ?_⟩
    obtain ⟨ts', hL, hacc⟩ := p1 hi
    rw [drop_getT ls i hi, List.map_cons] at hL
    have hll := e3 ls[i] (List.getElem_mem hi)
    have hal : acc.length ≤ 500000 := by
      have := congrArg List.length hacc
      rw [List.length_append] at this
      omega
    generalize hx : ls[i] = l at *
    have key : ∀ (ts1 : List Tk) (f : Nat), LTk (i + 1) l.l 1 ts1 f → (seqS (sAug 3 (eC (.int 1)) addA) (seqS (sSetW 5 2 3 (awC (eV 4) (awC (eV 3) (awN 2))) FW_scan_line) (ifS (b1 (b2 (eV 5) (eC (.int 0)) gtD) boolO) (seqS (appS 2 (eT (aC (eC (.str "fault")) (aC (eC (.str "")) (aC (eV 3) (aC (eV 5) (aN))))))) (sRet (eV 2))) (sNx)))) ([some (.str t.s), some (L ls), some (L acc), some (.int i), x, y].set 4 (some (E l))) = if 0 < f then .rt (L (acc ++ ts1 ++ [⟨.flt, i + 1, f⟩])) else .nx [some (.str t.s), some (L ls), some (L (acc ++ ts1)), some (.int (i + 1 : Nat)), some (.str l.s), some (.int f)] := fun ts1 f h1 => by
      have hs := fun q => scanl_E q l (i + 1) f acc ts1 h1 (by omega) hal
      have hc := h1.cnt
      have hlim : (acc ++ ts1).length < 1000000 := by rw [List.length_append]; omega
      simp only [Int.natCast_add, Int.natCast_one] at hs
      generalize acc ++ ts1 = ac at *
      have sn := Ls_snoc ac (⟨.flt, i + 1, f⟩ : Tk)
      rw [E_tk] at sn
      simp [Tv.kd, Tv.vl] at sn
      by_cases hf : 0 < f
      · have hf' : (0 : Int) < f := by omega
        rw [if_pos hf]
        simp [hs, hf, hf', hlim]
        rw [szT_ok (by simp [LIM])]
        simp [hlim, sn]
      · have hf' : ¬ (0 : Int) < f := by omega
        rw [if_neg hf]
        simp [hs, hf, hf']
    generalize hrs : (ls.drop (i + 1)).map Tx.l = rs at hL
    have hrl : rs.length = ls.length - (i + 1) := by rw [← hrs, List.length_map, List.length_drop]
    cases hL with
    | last h1 =>
      rw [key _ _ h1, if_neg (by omega)]
      have hi1 : i + 1 = ls.length := by rw [List.length_nil] at hrl; omega
      refine ⟨_, _, _, rfl, fun z => by omega, fun _ => ?_⟩
      have hgl : ls.getLast? = some l := by
        rw [List.getLast?_eq_getElem?, ← hi1, Nat.add_sub_cancel, List.getElem?_eq_getElem hi, hx]
      rw [hgl, ← hacc, List.append_assoc, ← hi1]
      rfl
    | more h1 hr h2 =>
      rw [key _ _ h1, if_neg (by omega)]
      refine ⟨_, _, _, rfl, fun z => ⟨_, by rw [hrs]; exact h2, by rw [List.append_assoc]; exact hacc⟩, fun z => ?_⟩
      have : rs.length ≠ 0 := fun y => hr (List.length_eq_zero_iff.mp y)
      omega
    | bad h1 hf0 =>
      rw [key _ _ h1, if_pos hf0]
      left
      rw [← hacc, List.append_assoc]) (fun γ hp => .inr ⟨γ, rfl, hp⟩)
  rcases this with rfl | ⟨γ, rfl, acc, x, y, rfl, _, p2⟩
  · simp
  · have p2 := p2 rfl
    have hll : acc.length < 1000000 := by
      have := congrArg List.length p2
      rw [List.length_append] at this
      omega
    obtain ⟨last, hlast⟩ : ∃ last, ls.getLast? = some last := by
      cases h : ls.getLast? with
      | none => exact absurd (List.getLast?_eq_none_iff.mp h) hne
      | some l => exact ⟨l, rfl⟩
    have hm : last ∈ ls := List.mem_of_getLast? hlast
    have hgl : ixD (L ls) (.int (-1)) = some (.str last.s) := by
      rw [ixD_L ls (-1) (by omega)]
      congr 1
      rw [← E_tx]
      congr 1
      unfold gt
      rw [if_pos (by decide), show (-1 + (ls.length : Int)).toNat = ls.length - 1 by omega, List.getD_eq_getElem?_getD, ← List.getLast?_eq_getElem?, hlast]
      rfl
    have ln := lenD_tx last (by have := e3 last hm; omega)
    rw [hlast] at p2
    have sn := Ls_snoc acc (⟨.fin, ls.length, 1 + last.l.length⟩ : Tk)
    rw [E_tk] at sn
    simp [Tv.kd, Tv.vl] at sn
    simp [hgl, ln]
    rw [szT_ok (by simp [LIM])]
    have p2 : acc ++ [⟨.fin, ls.length, 1 + last.l.length⟩] = ts := p2
    rw [p2] at sn
    have e : (last.l.length : Int) + 1 = 1 + last.l.length := by omega
    simp [hll, e, sn]
/-- the end, or a fault -/
theorem toks_ok (t : Tx) (us : List Tk) (n c : Nat) (h : Tks t.l 1 1 (us ++ [⟨.fin, n, c⟩])) (hl : t.l.length ≤ 100000) (hts : us.length ≤ 400000) : F_tokens_of [.str t.s] = .ok (L (us ++ [(⟨.fin, n, c⟩ : Tk)])) := by
  have s := scan_E t _ (h.lines (by omega)) hl (by simp; omega)
  have hg : ixD (L (us ++ [(⟨.fin, n, c⟩ : Tk)])) (.int (-1)) = some (E (⟨.fin, n, c⟩ : Tk)) := by
    rw [ixD_L _ (-1) (by simp; omega)]
    congr 2
    unfold gt
    rw [if_pos (by decide), List.length_append, List.length_cons, List.length_nil, show (-1 + ((us.length + (0 + 1) : Nat) : Int)).toNat = us.length by omega]
    exact getD_snoc_eq
  rw [E_tk] at hg
  have i0 : ixD (.tuple [.str (Tv.fin).kd, (Tv.fin).vl, .int (n : Int), .int (c : Int)]) (.int 0) = some (.str (Str.ofString "end")) := rfl
  generalize (.tuple [.str (Tv.fin).kd, (Tv.fin).vl, .int (n : Int), .int (c : Int)] : D) = tt at *
  generalize us ++ [(⟨.fin, n, c⟩ : Tk)] = ts at *
  simp [F_tokens_of, callS_eq, g_tokens_of, s, hg, i0]
theorem toks_er (t : Tx) (us : List Tk) (n c : Nat) (h : Tks t.l 1 1 (us ++ [⟨.flt, n, c⟩])) (hl : t.l.length ≤ 100000) (hts : us.length ≤ 400000) : F_tokens_of [.str t.s] = .er "BadText" [("reason", .str "token"), ("column", .int (c : Int)), ("line", .int (n : Int)), ("label", .str "BadText")] := by
  have s := scan_E t _ (h.lines (by omega)) hl (by simp; omega)
  have hg : ixD (L (us ++ [(⟨.flt, n, c⟩ : Tk)])) (.int (-1)) = some (E (⟨.flt, n, c⟩ : Tk)) := by
    rw [ixD_L _ (-1) (by simp; omega)]
    congr 2
    unfold gt
    rw [if_pos (by decide), List.length_append, List.length_cons, List.length_nil, show (-1 + ((us.length + (0 + 1) : Nat) : Int)).toNat = us.length by omega]
    exact getD_snoc_eq
  rw [E_tk] at hg
  have i0 : ixD (.tuple [.str (Tv.flt).kd, (Tv.flt).vl, .int (n : Int), .int (c : Int)]) (.int 0) = some (.str (Str.ofString "fault")) := rfl
  have i2 : ixD (.tuple [.str (Tv.flt).kd, (Tv.flt).vl, .int (n : Int), .int (c : Int)]) (.int 2) = some (.int (n : Int)) := rfl
  have i3 : ixD (.tuple [.str (Tv.flt).kd, (Tv.flt).vl, .int (n : Int), .int (c : Int)]) (.int 3) = some (.int (c : Int)) := rfl
  generalize (.tuple [.str (Tv.flt).kd, (Tv.flt).vl, .int (n : Int), .int (c : Int)] : D) = tt at *
  generalize us ++ [(⟨.flt, n, c⟩ : Tk)] = ts at *
  simp [F_tokens_of, callS_eq, g_tokens_of, s, hg, i0, i2, i3, flD]
end DL
set_option Elab.async false
set_option linter.all false
set_option maxRecDepth 100000
set_option maxHeartbeats 8000000

/-! What the defs of the text compute, on data (printed by gen.py). -/
namespace DL
open PySem PySem.Spec PyProof.Rows L2


abbrev errs_k01 : List Str := ["BadText", "OutOfRange"]
/-- _law_name(cell, size): cell, size, text, marks, mark, k -/
def g__law_name : Env → Out := seqS (sSet 2 (eC (.str "abcdefghijklmnopqrstuvwxyz0123456789"))) (seqS (sSet 3 (cF 2 (aC (eV 0) (aC (b2 (eL (nL (aC (eC (.int 26)) (aN)))) (eL (nLc [5] (cB (aC (b2 (eV 1) (eC (.int 1)) subD) (aN)) rg1) (tgN 5) (tsYes) (eC (.int 36)))) addD) (aN))) F__law_draw)) (sRet (eM1 (eC (.str "")) (eL (nLc [4] (b1 (eV 3) lstO) (tgN 4) (tsYes) (b2 (eV 2) (eV 4) ixD))) joinD)))
def F__law_name : List D → Rs D := callS 6 g__law_name
/-- _law_token(cell): cell, d, small -/
def g__law_token : Env → Out := seqS (sSet 1 (cF 2 (aC (eV 0) (aC (eL (nL (aC (eC (.int 3)) (aC (eC (.int 1000001)) (aC (eC (.int 26)) (aC (eC (.int 36)) (aC (eC (.int 36)) (aC (eC (.int 12)) (aC (eC (.int 5)) (aN)))))))))) (aN))) F__law_draw)) (seqS (sSet 2 (eC (.str "abcdefghijklmnopqrstuvwxyz0123456789"))) (seqS (ifS (b1 (b2 (b2 (eV 1) (eC (.int 0)) ixD) (eC (.int 0)) eqD) boolO) (sRet (eT (aC (eC (.str "word")) (aC (eCut (b2 (b2 (b2 (eV 2) (b2 (eV 1) (eC (.int 2)) ixD) ixD) (b2 (eV 2) (b2 (eV 1) (eC (.int 3)) ixD) ixD) addD) (b2 (eV 2) (b2 (eV 1) (eC (.int 4)) ixD) ixD) addD) (oN) (oS (b2 (eC (.int 1)) (b2 (cB (aC (b2 (eV 1) (eC (.int 6)) ixD) (aN)) intD) (eC (.int 3)) modD) addD))) (aN))))) (sNx)) (seqS (ifS (b1 (b2 (b2 (eV 1) (eC (.int 0)) ixD) (eC (.int 1)) eqD) boolO) (sRet (eT (aC (eC (.str "number")) (aC (b2 (eL (nL (aC (b2 (eV 1) (eC (.int 1)) ixD) (aC (eC (.int 1000000)) (aC (b2 (cB (aC (b2 (eV 1) (eC (.int 1)) ixD) (aN)) intD) (eC (.int 10)) modD) (aC (eC (.int 0)) (aC (b2 (cB (aC (b2 (eV 1) (eC (.int 1)) ixD) (aN)) intD) (eC (.int 1000)) modD) (aN)))))))) (b2 (eV 1) (eC (.int 6)) ixD) ixD) (aN))))) (sNx)) (sRet (eT (aC (eC (.str "sign")) (aC (b2 (eC (.str "{}();,:=+-*<")) (b2 (eV 1) (eC (.int 5)) ixD) ixD) (aN))))))))
def F__law_token : List D → Rs D := callS 3 g__law_token
/-- _law_after(line, column, text): line, column, text, k -/
def g__law_after : Env → Out := seqS (sFor (cB (aC (cB (aC (eV 2) (aN)) lenD) (aN)) rg1) (tgN 3) (ifS (b1 (b2 (b2 (eV 2) (eV 3) ixD) (eC (.str "\n")) eqD) boolO) (seqS (sSet 0 (b2 (eV 0) (eC (.int 1)) addD)) (sSet 1 (eC (.int 1)))) (sSet 1 (b2 (eV 1) (eC (.int 1)) addD)))) (sRet (eT (aC (eV 0) (aC (eV 1) (aN)))))
def F__law_after : List D → Rs D := callS 4 g__law_after
/-- _law_gap(cell): cell -/
def g__law_gap : Env → Out := sRet (b2 (eL (nL (aC (eC (.str " ")) (aC (eC (.str "  ")) (aC (eC (.str "\n")) (aC (eC (.str " # a 5 ; @ !\n")) (aC (eC (.str "\n\n   ")) (aC (eC (.str "   ")) (aN))))))))) (b2 (cB (aC (eV 0) (aN)) intD) (eC (.int 6)) modD) ixD)
def F__law_gap : List D → Rs D := callS 1 g__law_gap
/-- _law_told(text): text, e -/
noncomputable def g__law_told : Env → Out := tryS errs_k01 (sRet (eT (aC (eC (.str "value")) (aC (cB (aC (cF 1 (aC (eV 0) (aN)) F_tokens_of) (aN)) lenD) (aC (eC (.int 0)) (aC (eC (.str "")) (aN))))))) ((("BadText" : Str), some 1, fun fs => seqS (ifS (tOr' (b1 (fun _ => .ok (.bool false)) truD) (tOr' (tNot' (b1 (fun _ => .ok (.bool true)) truD)) (tNot' (b1 (fun _ => .ok (.bool true)) truD)))) (sRet (eT (aC (eC (.str "mixed")) (aC (eC (.int 0)) (aC (eC (.int 0)) (aC (eC (.str "")) (aN))))))) (sNx)) (sRet (eT (aC (eC (.str "text")) (aC (fun _ => oR (fs.lookup ("line" : Str))) (aC (fun _ => oR (fs.lookup ("column" : Str))) (aC (fun _ => oR (fs.lookup ("reason" : Str))) (aN)))))))) :: [])
noncomputable def F__law_told : List D → Rs D := callS 2 g__law_told
/-- _law_good(text): text, small, sign -/
def g__law_good : Env → Out := seqS (sSet 1 (eC (.str "abcdefghijklmnopqrstuvwxyz"))) (seqS (ifS (tOr' (b1 (b2 (cB (aC (eV 0) (aN)) lenD) (eC (.int 1)) ltD) boolO) (tOr' (b1 (b2 (cB (aC (eV 0) (aN)) lenD) (eC (.int 12)) gtD) boolO) (b1 (b2 (b2 (eV 0) (eC (.int 0)) ixD) (eV 1) (inSD true)) boolO))) (sRet (eC (.bool false))) (sNx)) (seqS (sFor (b1 (eV 0) sgnO) (tgN 2) (ifS (tAnd' (b1 (b2 (eV 2) (eV 1) (inSD true)) boolO) (b1 (b2 (eV 2) (eC (.str "0123456789")) (inSD true)) boolO)) (sRet (eC (.bool false))) (sNx))) (sRet (eC (.bool true)))))
def F__law_good : List D → Rs D := callS 3 g__law_good
/-- law(script): script, size, name, one, runs, shift, text, plain, place, found, count, first, second, k, told, token, spelled, gap, wrong -/
noncomputable def t_law_0 : Env → Out := sSet 1 (b2 (eC (.int 1)) (b2 (b2 (cB (aC (cF 2 (aC (eV 0) (aC (eC (.int 0)) (aN))) F__law_cell) (aN)) intD) (eC (.int 8)) fdivWD) (eC (.int 13)) modD) addD)
noncomputable def t_law_1 : Env → Out := sSet 2 (cF 2 (aC (cF 2 (aC (eV 0) (aC (eC (.int 2)) (aN))) F__law_cell) (aC (eV 1) (aN))) F__law_name)
noncomputable def t_law_2 : Env → Out := ifS (b1 (b2 (b2 (cB (aC (cF 2 (aC (eV 0) (aC (eC (.int 1)) (aN))) F__law_cell) (aN)) intD) (eC (.int 2)) modD) (eC (.int 1)) eqD) boolO) (sSet 2 (b2 (b2 (eCut (eV 2) (oN) (oS (b2 (eV 1) (eC (.int 2)) fdivWD))) (b2 (eC (.str "AZ_- .0a9/+\n")) (b2 (b2 (cB (aC (cF 2 (aC (eV 0) (aC (eC (.int 1)) (aN))) F__law_cell) (aN)) intD) (eC (.int 2)) fdivWD) (eC (.int 12)) modD) ixD) addD) (eCut (eV 2) (oS (b2 (b2 (eV 1) (eC (.int 2)) fdivWD) (eC (.int 1)) addD)) (oN)) addD)) (sNx)
noncomputable def t_law_3 : Env → Out := sFor (b1 (eL (nL (aC (eV 2) (aC (eC (.str "")) (aC (eC (.str "trick")) (aC (b2 (eC (.str "a")) (eC (.int 12)) mulSD) (aC (b2 (eC (.str "a")) (eC (.int 13)) mulSD) (aN)))))))) lstO) (tgN 3) (seqS (sSet 14 (cF 1 (aC (eV 3) (aN)) F_is_name)) (ifS (tOr' (tNot' (b1 (b1 (eV 14) (isiD "bool")) truD)) (b1 (b2 (eV 14) (cF 1 (aC (eV 3) (aN)) F__law_good) neD) boolO)) (sRet (eC (.bool false))) (sNx)))
noncomputable def t_law_4 : Env → Out := sSet 4 (eL (nL (aC (eC (.str "01")) (aC (eC (.str "00")) (aC (eC (.str "007")) (aC (eC (.str "1000001")) (aC (eC (.str "99999999999")) (aC (eC (.str "5a")) (aC (eC (.str "0x")) (aC (eC (.str "A")) (aC (eC (.str "@")) (aC (eC (.str "!")) (aC (eC (.str "\"")) (aC (eC (.str "'")) (aC (eC (.str ".")) (aC (eC (.str "5.5")) (aC (eC (.str "?")) (aC (eC (.str ">")) (aC (eC (.str "^")) (aC (eC (.str "/")) (aN)))))))))))))))))))))
noncomputable def t_law_5 : Env → Out := sSet 4 (b2 (eV 4) (eL (nL (aC (eC (.str "_")) (aC (eC (.str "&")) (aC (eC (.str "|")) (aC (eC (.str "~")) (aC (eC (.str "$")) (aC (eC (.str "\\")) (aC (eC (.str "Z9")) (aC (eC (.str "[")) (aC (eC (.str "]")) (aC (eC (.str "a_")) (aC (eC (.str "`")) (aC (eC (.str "aB")) (aN))))))))))))))) addD)
noncomputable def t_law_6 : Env → Out := sDispC 5 [(("5.5" : Str), 1), (("a_" : Str), 1), (("aB" : Str), 1)]
noncomputable def t_law_7 : Env → Out := sSet 6 (eC (.str ""))
noncomputable def t_law_8 : Env → Out := sSet 7 (eC (.str ""))
noncomputable def t_law_9 : Env → Out := sSet 8 (eT (aC (eC (.int 1)) (aC (eC (.int 1)) (aN))))
noncomputable def t_law_10 : Env → Out := sSet 9 (eC .none)
noncomputable def t_law_11 : Env → Out := sSet 10 (cB (aC (eC (.int 15)) (aC (cB (aC (eC (.int 1)) (aC (b2 (cB (aC (eV 0) (aN)) lenD) (eC (.int 3)) subD) (aN))) maxD) (aN))) minD)
noncomputable def t_law_12 : Env → Out := sSet 11 (b2 (cB (aC (cF 2 (aC (eV 0) (aC (eC (.int 0)) (aN))) F__law_cell) (aN)) intD) (eV 10) modD)
noncomputable def t_law_13 : Env → Out := sSet 12 (b2 (cB (aC (cF 2 (aC (eV 0) (aC (eC (.int 1)) (aN))) F__law_cell) (aN)) intD) (b2 (eC (.int 2)) (eV 10) mulD) modD)
noncomputable def t_law_14 : Env → Out := sFor (cB (aC (eV 10) (aN)) rg1) (tgN 13) (seqS (sSet 15 (cF 1 (aC (cF 2 (aC (eV 0) (aC (b2 (eC (.int 3)) (eV 13) addD) (aN))) F__law_cell) (aN)) F__law_token)) (seqS (sSet 16 (cB (aC (b2 (eV 15) (eC (.int 1)) ixD) (aN)) strA)) (seqS (sSet 17 (cF 1 (aC (b2 (b2 (cF 2 (aC (eV 0) (aC (b2 (eC (.int 3)) (eV 13) addD) (aN))) F__law_cell) (eC (.int 3)) fdivWD) (eV 13) addD) (aN)) F__law_gap)) (seqS (sSet 7 (b2 (b2 (eV 7) (eV 16) addD) (eV 17) addD)) (seqS (ifS (tOr' (b1 (b2 (eV 13) (eV 11) eqD) boolO) (b1 (b2 (eV 13) (eV 12) eqD) boolO)) (seqS (sSet 18 (b2 (eV 4) (b2 (cB (aC (b2 (cF 2 (aC (eV 0) (aC (eC (.int 2)) (aN))) F__law_cell) (eV 13) addD) (aN)) intD) (cB (aC (eV 4) (aN)) lenD) modD) ixD)) (seqS (ifS (b1 (b1 (eV 9) fun d => some (.bool (isNoneD d))) boolO) (sSet 9 (eT (aC (b2 (eV 8) (eC (.int 0)) ixD) (aC (b2 (b2 (eV 8) (eC (.int 1)) ixD) (eDget2 val3 5 (eV 18) (eC (.int 0))) addD) (aN))))) (sNx)) (sSet 16 (b2 (b2 (eV 18) (eC (.str " ")) addD) (eV 16) addD)))) (sNx)) (seqS (sSet 6 (b2 (b2 (eV 6) (eV 16) addD) (eV 17) addD)) (sSet 8 (cF 3 (aC (b2 (eV 8) (eC (.int 0)) ixD) (aC (b2 (eV 8) (eC (.int 1)) ixD) (aC (b2 (eV 16) (eV 17) addD) (aN)))) F__law_after))))))))
noncomputable def t_law_15 : Env → Out := ifS (b1 (b2 (cF 1 (aC (eV 7) (aN)) F__law_told) (eT (aC (eC (.str "value")) (aC (b2 (eV 10) (eC (.int 1)) addD) (aC (eC (.int 0)) (aC (eC (.str "")) (aN)))))) neD) boolO) (sRet (eC (.bool false))) (sNx)
noncomputable def t_law_16 : Env → Out := sRet (b2 (cF 1 (aC (eV 6) (aN)) F__law_told) (eT (aC (eC (.str "text")) (aC (b2 (eV 9) (eC (.int 0)) ixD) (aC (b2 (eV 9) (eC (.int 1)) ixD) (aC (eC (.str "token")) (aN)))))) eqD)
noncomputable def r_law_16 : Env → Out := t_law_16
noncomputable def r_law_15 : Env → Out := seqS t_law_15 r_law_16
noncomputable def r_law_14 : Env → Out := seqS t_law_14 r_law_15
noncomputable def r_law_13 : Env → Out := seqS t_law_13 r_law_14
noncomputable def r_law_12 : Env → Out := seqS t_law_12 r_law_13
noncomputable def r_law_11 : Env → Out := seqS t_law_11 r_law_12
noncomputable def r_law_10 : Env → Out := seqS t_law_10 r_law_11
noncomputable def r_law_9 : Env → Out := seqS t_law_9 r_law_10
noncomputable def r_law_8 : Env → Out := seqS t_law_8 r_law_9
noncomputable def r_law_7 : Env → Out := seqS t_law_7 r_law_8
noncomputable def r_law_6 : Env → Out := seqS t_law_6 r_law_7
noncomputable def r_law_5 : Env → Out := seqS t_law_5 r_law_6
noncomputable def r_law_4 : Env → Out := seqS t_law_4 r_law_5
noncomputable def r_law_3 : Env → Out := seqS t_law_3 r_law_4
noncomputable def r_law_2 : Env → Out := seqS t_law_2 r_law_3
noncomputable def r_law_1 : Env → Out := seqS t_law_1 r_law_2
noncomputable def r_law_0 : Env → Out := seqS t_law_0 r_law_1
theorem r_law_0_eq (γ : Env) : r_law_0 γ = thn (t_law_0 γ) r_law_1 := seqS_thn _ _ _
theorem r_law_1_eq (γ : Env) : r_law_1 γ = thn (t_law_1 γ) r_law_2 := seqS_thn _ _ _
theorem r_law_2_eq (γ : Env) : r_law_2 γ = thn (t_law_2 γ) r_law_3 := seqS_thn _ _ _
theorem r_law_3_eq (γ : Env) : r_law_3 γ = thn (t_law_3 γ) r_law_4 := seqS_thn _ _ _
theorem r_law_4_eq (γ : Env) : r_law_4 γ = thn (t_law_4 γ) r_law_5 := seqS_thn _ _ _
theorem r_law_5_eq (γ : Env) : r_law_5 γ = thn (t_law_5 γ) r_law_6 := seqS_thn _ _ _
theorem r_law_6_eq (γ : Env) : r_law_6 γ = thn (t_law_6 γ) r_law_7 := seqS_thn _ _ _
theorem r_law_7_eq (γ : Env) : r_law_7 γ = thn (t_law_7 γ) r_law_8 := seqS_thn _ _ _
theorem r_law_8_eq (γ : Env) : r_law_8 γ = thn (t_law_8 γ) r_law_9 := seqS_thn _ _ _
theorem r_law_9_eq (γ : Env) : r_law_9 γ = thn (t_law_9 γ) r_law_10 := seqS_thn _ _ _
theorem r_law_10_eq (γ : Env) : r_law_10 γ = thn (t_law_10 γ) r_law_11 := seqS_thn _ _ _
theorem r_law_11_eq (γ : Env) : r_law_11 γ = thn (t_law_11 γ) r_law_12 := seqS_thn _ _ _
theorem r_law_12_eq (γ : Env) : r_law_12 γ = thn (t_law_12 γ) r_law_13 := seqS_thn _ _ _
theorem r_law_13_eq (γ : Env) : r_law_13 γ = thn (t_law_13 γ) r_law_14 := seqS_thn _ _ _
theorem r_law_14_eq (γ : Env) : r_law_14 γ = thn (t_law_14 γ) r_law_15 := seqS_thn _ _ _
theorem r_law_15_eq (γ : Env) : r_law_15 γ = thn (t_law_15 γ) r_law_16 := seqS_thn _ _ _
noncomputable def g_law : Env → Out := r_law_0
noncomputable def F_law : List D → Rs D := callS 19 g_law
end DL
set_option Elab.async false
set_option linter.all false
set_option maxRecDepth 100000
set_option maxHeartbeats 8000000

/-! What _law_told answers (printed by gen.py). -/
namespace DL
open PySem PySem.Spec PyProof.Rows L2

-- way 0: ('value', len(tokens_of(text)), 0, '')
end DL
set_option Elab.async false
set_option linter.all false
set_option maxRecDepth 100000
set_option maxHeartbeats 1000000
/-! Plain: the law's own tokens, gaps, places. -/
namespace DL
open PySem PySem.Spec PyProof.Rows L2
local macro_rules | `(tactic| trivial) => `(tactic| first | omega | (simp; done))

def Tx.app (a b : Tx) : Tx := ⟨a.l ++ b.l, by rw [List.all_append, a.h, b.h]; rfl⟩
theorem app_len (a b : Tx) : (a.app b).l.length = a.l.length + b.l.length := List.length_append ..
theorem addD_tx (a b : Tx) (h : a.l.length + b.l.length ≤ 1000000) : addD (.str a.s) (.str b.s) = some (.str (a.app b).s) := by
  show (if a.s.length + b.s.length ≤ LIM then some (PyData.str (a.s ++ b.s)) else none) = _
  rw [Tx.len, Tx.len, if_pos h]
  congr 2
  refine TL.ext_tl ?_
  rw [TL.tl_append]
  show a.s.cps.toList ++ b.s.cps.toList = (a.app b).s.cps.toList
  rw [Tx.cps, Tx.cps, Tx.cps]
  rfl
theorem cut_to (t : Tx) (b : Nat) (hl : t.l.length ≤ 1000000) : cutAD none (some (b : Int)) (.str t.s) = some (.str (t.cut 0 b).s) := by
  show (if t.s.length ≤ LIM then some (PyData.str (cutS t.s none (some (b : Int)))) else none) = _
  rw [Tx.len, if_pos hl]
  congr 2
  refine TL.ext_tl ?_
  show (cutS t.s none (some (b : Int))).cps.toList = (t.cut 0 b).s.cps.toList
  rw [Tx.cps]
  unfold cutS
  rw [HT.sIx_nat, HT.sIx_none, Tx.len, Tx.cps]
  show (t.l.drop 0).take (min b t.l.length - 0) = (t.l.drop 0).take b
  rw [List.drop_zero, Nat.sub_zero]
  rcases Nat.le_total b t.l.length with h | h
  · rw [Nat.min_eq_left h]
  · rw [Nat.min_eq_right h, List.take_of_length_le (Nat.le_refl _), List.take_of_length_le h]
/-! numbers in digits -/
theorem numL_hd : ∀ n : Nat, 0 < n → (TL.numL n).getD 0 0 ≠ 48 := by
  intro n
  induction n using Nat.strongRecOn with
  | _ n ih =>
    intro hn
    by_cases h : n < 10
    · rw [TL.numL_lt h]
      simp; omega
    · rw [TL.numL_step (by omega), hd_get (TL.numL_ne _)]
      exact ih (n / 10) (by omega) (by omega)
theorem numL_dg (n : Nat) : (TL.numL n).all isDg = true := by
  rw [List.all_eq_true]
  intro c hc
  have := TL.numL_digits n c hc
  unfold isDg
  simp only [Bool.and_eq_true, decide_eq_true_eq]
  exact this
theorem numL_O {n : Nat} (h : n ≤ 1000000) : numO (TL.numL n) = some n := by
  unfold numO
  have h7 := TL.numL_len (n := n) (k := 7) (by omega) (by omega)
  have hv : dval (TL.numL n) = n := TL.numL_val n
  rw [hv, if_neg, if_neg (by omega)]
  rintro (z | ⟨z1, z2⟩)
  · omega
  · rcases Nat.eq_zero_or_pos n with e | e
    · subst e
      rw [TL.numL_lt (by omega)] at z1
      simp at z1
    · exact numL_hd n e z2
def numT (n : Nat) : Tx := ⟨TL.numL n, by
  rw [List.all_eq_true]
  intro c hc
  have := TL.numL_digits n c hc
  exact decide_eq_true (by omega)⟩
theorem strA_num (n : Nat) (h : n ≤ 1000000) : strA [.int (n : Int)] = some (.str (numT n).s) := by
  have hl : (n : Int).natAbs.log2 < 1920 := by
    rw [Int.natAbs_natCast]
    rcases Nat.eq_zero_or_pos n with e | e
    · subst e; decide
    · have : n.log2 < 20 := (Nat.log2_lt (by omega)).mpr (Nat.lt_of_le_of_lt h (by decide))
      omega
  show (if _ then _ else _) = _
  rw [if_pos hl]
  congr 2
  refine TL.ext_tl ?_
  show _ = (numT n).s.cps.toList
  rw [Tx.cps]
  exact TL.tl_num n
/-! the law's tokens -/
def spl (v : Tv) : Tx := match v with
  | .word t => t
  | .num n => numT n
  | .sign t => t
  | _ => ⟨[], rfl⟩
/-- a token of the law -/
def LV : Tv → Prop
  | .word w => w.l ≠ [] ∧ isLt (w.l.getD 0 0) = true ∧ w.l.all isLd = true ∧ w.l.length ≤ 3
  | .num n => n ≤ 1000000
  | .sign t => ∃ c, c ∈ sgn ∧ t = chN c
  | _ => False
theorem spl_E (v : Tv) (h : LV v) : strA [v.vl] = some (.str (spl v).s) := by
  cases v with
  | word t => rfl
  | num n => exact strA_num n h
  | sign t => rfl
  | fin => exact h.elim
  | flt => exact h.elim
def alph : Tx := tx "abcdefghijklmnopqrstuvwxyz0123456789"
theorem alph_len : alph.l.length = 36 := by decide
theorem alph_ok : ((List.range 36).all fun k => isLd (alph.l.getD k 0) && (decide (26 ≤ k) || isLt (alph.l.getD k 0))) = true := by decide
theorem alph_at {k : Nat} (h : k < 36) : isLd (alph.l.getD k 0) = true ∧ (k < 26 → isLt (alph.l.getD k 0) = true) := by
  have := List.all_eq_true.mp alph_ok k (List.mem_range.mpr h)
  rw [Bool.and_eq_true] at this
  refine ⟨this.1, fun hk => ?_⟩
  have h2 := this.2
  rw [decide_eq_false (by omega : ¬ 26 ≤ k), Bool.false_or] at h2
  exact h2
theorem alph_ix {k : Nat} (h : k < 36) : ixD (.str alph.s) (.int (k : Int)) = some (.str (chN (alph.l.getD k 0)).s) := by
  rw [ixD_tx alph k (by rw [alph_len]; exact h) (by rw [alph_len]; omega), chN_s (tx_lt alph k (by rw [alph_len]; exact h))]
def sgT : Tx := tx "{}();,:=+-*<"
theorem sgT_ix {k : Nat} (h : k < 12) : ixD (.str sgT.s) (.int (k : Int)) = some (.str (chN (sgn.getD k 0)).s) ∧ sgn.getD k 0 ∈ sgn := by
  have hl : sgT.l.length = 12 := by decide
  have e : sgT.l = sgn := rfl
  refine ⟨by rw [ixD_tx sgT k (by omega) (by omega), e, chN_s (by rw [← e]; exact tx_lt sgT k (by omega))], ?_⟩
  rw [List.getD_eq_getElem?_getD, List.getElem?_eq_getElem (by rw [← e, hl]; exact h)]
  exact List.getElem_mem _
theorem seven (d : List Int) (h : d.length = 7) : ∃ a b c e f g k, d = [a, b, c, e, f, g, k] := by
  match d, h with
  | [a, b, c, e, f, g, k], _ => exact ⟨a, b, c, e, f, g, k, rfl⟩
theorem nn (i : Int) (h : 0 ≤ i) : ∃ n : Nat, i = (n : Int) := ⟨i.toNat, by omega⟩
theorem ltok_E (c : Int) : ∃ v : Tv, LV v ∧ F__law_token [.int c] = .ok (.tuple [.str v.kd, v.vl]) := by
  have hl : ∀ l ∈ [(3 : Int), 1000001, 26, 36, 36, 12, 5], 0 < l ∧ l < 18446744073709551616 := by
    intro l hl
    simp only [List.mem_cons, List.not_mem_nil, or_false] at hl
    omega
  have dr := drw_E c _ hl (by simp)
  have dl := drw_len c _ hl (by simp)
  have da := fun k hk => drw_at c _ hl (by simp) k hk
  generalize drw c [(3 : Int), 1000001, 26, 36, 36, 12, 5] = d at *
  obtain ⟨a0, a1, a2, a3, a4, a5, a6, rfl⟩ := seven d dl
  have d0 := da 0 (by simp)
  have d1 := da 1 (by simp)
  have d2 := da 2 (by simp)
  have d3 := da 3 (by simp)
  have d4 := da 4 (by simp)
  have d5 := da 5 (by simp)
  have d6 := da 6 (by simp)
  simp at d0 d1 d2 d3 d4 d5 d6
  clear da
  obtain ⟨n1, rfl⟩ := nn a1 d1.1
  obtain ⟨n2, rfl⟩ := nn a2 d2.1
  obtain ⟨n3, rfl⟩ := nn a3 d3.1
  obtain ⟨n4, rfl⟩ := nn a4 d4.1
  obtain ⟨n5, rfl⟩ := nn a5 d5.1
  have i0 : ixD (L [a0, (n1 : Int), n2, n3, n4, n5, a6]) (.int 0) = some (.int a0) := rfl
  have i1 : ixD (L [a0, (n1 : Int), n2, n3, n4, n5, a6]) (.int 1) = some (.int n1) := rfl
  have i2 : ixD (L [a0, (n1 : Int), n2, n3, n4, n5, a6]) (.int 2) = some (.int n2) := rfl
  have i3 : ixD (L [a0, (n1 : Int), n2, n3, n4, n5, a6]) (.int 3) = some (.int n3) := rfl
  have i4 : ixD (L [a0, (n1 : Int), n2, n3, n4, n5, a6]) (.int 4) = some (.int n4) := rfl
  have i5 : ixD (L [a0, (n1 : Int), n2, n3, n4, n5, a6]) (.int 5) = some (.int n5) := rfl
  have i6 : ixD (L [a0, (n1 : Int), n2, n3, n4, n5, a6]) (.int 6) = some (.int a6) := rfl
  have L7 : PyData.list [.int 3, .int 1000001, .int 26, .int 36, .int 36, .int 12, .int 5] = L [(3 : Int), 1000001, 26, 36, 36, 12, 5] := rfl
  have al : (.str (Str.ofString "abcdefghijklmnopqrstuvwxyz0123456789") : D) = .str alph.s := by rw [alph, tx_s]
  have sg : (.str (Str.ofString "{}();,:=+-*<") : D) = .str sgT.s := by rw [sgT, tx_s]
  generalize L [a0, (n1 : Int), n2, n3, n4, n5, a6] = dd at *
  by_cases h0 : a0 = 0
  · have x2 := alph_ix (k := n2) (by omega)
    have x3 := alph_ix (k := n3) (by omega)
    have x4 := alph_ix (k := n4) (by omega)
    have l1 : ∀ c, (chN c).l.length = 1 := fun c => by unfold chN; split <;> rfl
    have s1 := addD_tx (chN (alph.l.getD n2 0)) (chN (alph.l.getD n3 0)) (by rw [l1, l1]; omega)
    have lt2 : ((chN (alph.l.getD n2 0)).app (chN (alph.l.getD n3 0))).l.length = 2 := by rw [app_len, l1, l1]
    have s2 := addD_tx ((chN (alph.l.getD n2 0)).app (chN (alph.l.getD n3 0))) (chN (alph.l.getD n4 0)) (by rw [lt2, l1]; omega)
    obtain ⟨k, hk, hk1⟩ : ∃ k : Nat, 1 + a6 % 3 = (k : Int) ∧ 1 ≤ k ∧ k ≤ 3 := ⟨(1 + a6 % 3).toNat, by omega, by omega⟩
    have ct := cut_to (((chN (alph.l.getD n2 0)).app (chN (alph.l.getD n3 0))).app (chN (alph.l.getD n4 0))) k (by rw [app_len, lt2, l1]; omega)
    refine ⟨.word ((((chN (alph.l.getD n2 0)).app (chN (alph.l.getD n3 0))).app (chN (alph.l.getD n4 0))).cut 0 k), ?_, ?_⟩
    · have c2 := chN_l (tx_lt alph n2 (by rw [alph_len]; omega))
      have c3 := chN_l (tx_lt alph n3 (by rw [alph_len]; omega))
      have c4 := chN_l (tx_lt alph n4 (by rw [alph_len]; omega))
      have e : ((((chN (alph.l.getD n2 0)).app (chN (alph.l.getD n3 0))).app (chN (alph.l.getD n4 0))).cut 0 k).l = [alph.l.getD n2 0, alph.l.getD n3 0, alph.l.getD n4 0].take k := by
        show List.take k ((_ ++ _) ++ _) = _
        rw [c2, c3, c4]
        rfl
      show _ ≠ _ ∧ _
      rw [e]
      have a2 := alph_at (k := n2) (by omega)
      have a3 := alph_at (k := n3) (by omega)
      have a4 := alph_at (k := n4) (by omega)
      have hkk : k = 1 ∨ k = 2 ∨ k = 3 := by omega
      have a2' := a2.2 (by omega)
      have b2 := a2.1
      have b3 := a3.1
      have b4 := a4.1
      clear a2 a3 a4 e c2 c3 c4 ct s1 s2 lt2 x2 x3 x4
      generalize alph.l.getD n2 0 = y2 at *
      generalize alph.l.getD n3 0 = y3 at *
      generalize alph.l.getD n4 0 = y4 at *
      rcases hkk with rfl | rfl | rfl <;> simp [b2, b3, b4, a2']
    · generalize chN (alph.l.getD n2 0) = t2 at *
      generalize chN (alph.l.getD n3 0) = t3 at *
      generalize chN (alph.l.getD n4 0) = t4 at *
      generalize ((t2.app t3).app t4).cut 0 k = w at *
      simp (disch := trivial) [F__law_token, callS_eq, g__law_token, L7, dr, i0, h0, al, i2, i3, i4, i6, x2, x3, x4, s1, s2, modD_int, hk, ct]
      exact ⟨rfl, rfl⟩
  · by_cases h1 : a0 = 1
    · obtain ⟨v, hv, hv1⟩ : ∃ v : Nat, ixD (L [(n1 : Int), 1000000, (n1 : Int) % 10, 0, (n1 : Int) % 1000]) (.int a6) = some (.int (v : Int)) ∧ v ≤ 1000000 := by
        have h6 : a6 = 0 ∨ a6 = 1 ∨ a6 = 2 ∨ a6 = 3 ∨ a6 = 4 := by omega
        rcases h6 with rfl | rfl | rfl | rfl | rfl
        · exact ⟨n1, rfl, by omega⟩
        · exact ⟨1000000, rfl, by omega⟩
        · exact ⟨n1 % 10, by rw [Int.natCast_emod]; rfl, by omega⟩
        · exact ⟨0, rfl, by omega⟩
        · exact ⟨n1 % 1000, by rw [Int.natCast_emod]; rfl, by omega⟩
      refine ⟨.num v, hv1, ?_⟩
      simp (disch := trivial) [F__law_token, callS_eq, g__law_token, L7, dr, i0, h1, i1, i6, modD_int, hv]
      exact ⟨rfl, rfl⟩
    · have hs := sgT_ix (k := n5) (by omega)
      refine ⟨.sign (chN (sgn.getD n5 0)), ⟨_, hs.2, rfl⟩, ?_⟩
      have hs := hs.1
      generalize chN (sgn.getD n5 0) = t5 at *
      simp (disch := trivial) [F__law_token, callS_eq, g__law_token, L7, dr, i0, h0, h1, i5, sg, hs]
      exact ⟨rfl, rfl⟩
end DL
set_option Elab.async false
set_option linter.all false
set_option maxRecDepth 100000
set_option maxHeartbeats 1000000
/-! Plain: places, gaps, texts of tokens. -/
namespace DL
open PySem PySem.Spec PyProof.Rows L2
local macro_rules | `(tactic| trivial) => `(tactic| first | omega | (simp; done))

/-- the place behind a text -/
def aft : Nat → Nat → List Nat → Nat × Nat
  | n, c, [] => (n, c)
  | n, c, x :: r => if x = 10 then aft (n + 1) 1 r else aft n (c + 1) r
theorem aft_cons (n c x : Nat) (r : List Nat) : aft n c (x :: r) = if x = 10 then aft (n + 1) 1 r else aft n (c + 1) r := rfl
theorem aft_app : ∀ (a b : List Nat) (n c : Nat), aft n c (a ++ b) = aft (aft n c a).1 (aft n c a).2 b
  | [], b, n, c => rfl
  | x :: a, b, n, c => by
    rw [List.cons_append, aft_cons, aft_cons]
    split
    · exact aft_app a b _ _
    · exact aft_app a b _ _
theorem aft_plain : ∀ (a : List Nat) (n c : Nat), (∀ x ∈ a, x ≠ 10) → aft n c a = (n, c + a.length)
  | [], n, c, _ => rfl
  | x :: a, n, c, h => by
    show (if x = 10 then _ else _) = _
    rw [if_neg (h x List.mem_cons_self), aft_plain a n (c + 1) fun y hy => h y (List.mem_cons_of_mem _ hy), List.length_cons]
    congr 1; omega
theorem aft_pos : ∀ (a : List Nat) (n c : Nat), 0 < c → 0 < (aft n c a).2
  | [], n, c, h => h
  | x :: a, n, c, h => by
    show 0 < (if x = 10 then _ else _ : Nat × Nat).2
    split
    · exact aft_pos a _ _ (by omega)
    · exact aft_pos a _ _ (by omega)
theorem lafter_E (t : Tx) (n c : Nat) (hl : t.l.length ≤ 100000) : F__law_after [.int n, .int c, .str t.s] = .ok (.tuple [.int (aft n c t.l).1, .int (aft n c t.l).2]) := by
  have ln := lenD_tx t (by omega)
  have rg := rg1_E (t.l.length : Int) (by omega)
  rw [Int.toNat_natCast] at rg
  simp [F__law_after, callS_eq, g__law_after, ln, rg]
  generalize hf : forS _ _ _ _ = o
  obtain ⟨γ', rfl, n', c', x, rfl, h⟩ := for_R hf (fun i γ => ∃ (n' c' : Nat) (x : Option D), γ = [some (.int n'), some (.int c'), some (.str t.s), x] ∧ aft n' c' (t.l.drop i) = aft n c t.l) ⟨n, c, none, rfl, by simp⟩ (by
    rintro i hi γ ⟨n', c', x, rfl, h⟩
    refine ⟨_, rfl, ?_⟩
    have ix := ixD_tx t i hi (by omega)
    have hb := tx_lt t i hi
    have hd : t.l.drop i = t.l.getD i 0 :: t.l.drop (i + 1) := by
      rw [drop_getT t.l i hi]
      simp [List.getD_eq_getElem?_getD, hi]
    rw [hd] at h
    generalize t.l.getD i 0 = y at *
    have e := eq_chr y 10 "\n" (by decide) hb (by decide)
    have h : (if y = 10 then aft (n' + 1) 1 (t.l.drop (i + 1)) else aft n' (c' + 1) (t.l.drop (i + 1))) = aft n c t.l := h
    by_cases hy : y = 10
    · subst hy
      rw [if_pos rfl] at h
      simp [ix, e]
      exact ⟨n' + 1, 1, ⟨by simp, by simp⟩, h⟩
    · rw [if_neg hy] at h
      simp [ix, e, hy]
      exact ⟨n', c' + 1, ⟨by simp, by simp⟩, h⟩)
  rw [List.drop_length] at h
  have h : (n', c') = aft n c t.l := h
  rw [← h]
  simp
/-! gaps -/
def gaps : List Tx := [tx " ", tx "  ", tx "\n", tx " # a 5 ; @ !\n", tx "\n\n   ", tx "   "]
theorem lgap_E (c : Int) : ∃ g ∈ gaps, F__law_gap [.int c] = .ok (.str g.s) := by
  have key : ∀ (k : Int) (s : String), c % 6 = k → tx s ∈ gaps → ixD (.list [.str (Str.ofString " "), .str (Str.ofString "  "), .str (Str.ofString "\n"), .str (Str.ofString " # a 5 ; @ !\n"), .str (Str.ofString "\n\n   "), .str (Str.ofString "   ")]) (.int k) = some (.str (Str.ofString s)) → ∃ g ∈ gaps, F__law_gap [.int c] = .ok (.str g.s) := fun k s h hm hi => by
    refine ⟨tx s, hm, ?_⟩
    rw [← h] at hi
    rw [tx_s]
    simp (disch := trivial) [F__law_gap, callS_eq, g__law_gap, modD_int, hi]
  have hx : c % 6 = 0 ∨ c % 6 = 1 ∨ c % 6 = 2 ∨ c % 6 = 3 ∨ c % 6 = 4 ∨ c % 6 = 5 := by omega
  rcases hx with h | h | h | h | h | h
  · exact key 0 " " h (by simp [gaps]) rfl
  · exact key 1 "  " h (by simp [gaps]) rfl
  · exact key 2 "\n" h (by simp [gaps]) rfl
  · exact key 3 " # a 5 ; @ !\n" h (by simp [gaps]) rfl
  · exact key 4 "\n\n   " h (by simp [gaps]) rfl
  · exact key 5 "   " h (by simp [gaps]) rfl
theorem gap_len : ∀ g ∈ gaps, g.l.length ≤ 20 ∧ (g.l.getD 0 0 = 32 ∨ g.l.getD 0 0 = 10) ∧ g.l ≠ [] := by decide
/-- a gap ahead -/
theorem Tks.gap {s : List Nat} {n c : Nat} {ts : List Tk} (g : Tx) (hg : g ∈ gaps) (h : Tks s (aft n c g.l).1 (aft n c g.l).2 ts) : Tks (g.l ++ s) n c ts := by
  unfold gaps at hg
  simp only [List.mem_cons, List.not_mem_nil, or_false] at hg
  rcases hg with rfl | rfl | rfl | rfl | rfl | rfl
  · exact .sp h
  · exact .sp (.sp h)
  · exact .nl h
  · exact .sp (.com [32, 97, 32, 53, 32, 59, 32, 64, 32, 33] (by decide) (.inr ⟨s, rfl⟩) (.nl h))
  · exact .nl (.nl (.sp (.sp (.sp h))))
  · exact .sp (.sp (.sp h))
/-! texts of tokens -/
abbrev Sg := Tv × Tx
def sgL (x : Sg) : List Nat := (spl x.1).l ++ x.2.l
def OKs (x : Sg) : Prop := LV x.1 ∧ (x.2 ∈ gaps ∨ (x.2.l = [] ∧ ∃ t, x.1 = .sign t))
def flat (xs : List Sg) : List Nat := xs.flatMap sgL
def duel : List Sg → Nat → Nat → List Tk
  | [], _, _ => []
  | x :: xs, n, c => ⟨x.1, n, c⟩ :: duel xs (aft n c (sgL x)).1 (aft n c (sgL x)).2
theorem duel_app : ∀ (xs ys : List Sg) (n c : Nat), duel (xs ++ ys) n c = duel xs n c ++ duel ys (aft n c (flat xs)).1 (aft n c (flat xs)).2
  | [], ys, n, c => rfl
  | x :: xs, ys, n, c => by
    show _ :: duel (xs ++ ys) _ _ = _ :: (duel xs _ _ ++ _)
    rw [duel_app xs ys]
    congr 2
    · show duel ys (aft _ _ (flat xs)).1 (aft _ _ (flat xs)).2 = duel ys (aft n c (sgL x ++ flat xs)).1 (aft n c (sgL x ++ flat xs)).2
      rw [aft_app]
theorem LV.no10 {v : Tv} (h : LV v) : ∀ x ∈ (spl v).l, x ≠ 10 := by
  cases v with
  | word w => exact all_10 isLd isLd_10 h.2.2.1
  | num n => exact all_10 isDg (by decide) (numL_dg n)
  | sign t =>
    obtain ⟨c, hc, rfl⟩ := h
    have := sgn_c hc
    intro x hx
    have e : (spl (.sign (chN c))).l = [c] := chN_l this.2.2.2.2
    rw [e, List.mem_singleton] at hx
    subst hx
    intro z
    subst z
    exact absurd hc (by decide)
  | fin => exact h.elim
  | flt => exact h.elim
theorem sp_hd (c : Nat) (h : c = 32 ∨ c = 10) : isLd c = false ∧ isDg c = false ∧ isAn c = false := by
  rcases h with rfl | rfl <;> decide
/-- a token and its gap ahead -/
theorem Tks.seg {s : List Nat} {n c : Nat} {ts : List Tk} (x : Sg) (hx : OKs x) (h : Tks s (aft n c (sgL x)).1 (aft n c (sgL x)).2 ts) : Tks (sgL x ++ s) n c (⟨x.1, n, c⟩ :: ts) := by
  obtain ⟨v, g⟩ := x
  obtain ⟨hv, hg⟩ := hx
  have h1 : aft n c (sgL (v, g)) = aft n (c + (spl v).l.length) g.l := by
    unfold sgL
    rw [aft_app, aft_plain _ _ _ hv.no10]
  rw [h1] at h
  have h2 : Tks (g.l ++ s) n (c + (spl v).l.length) ts := by
    rcases hg with hg | ⟨hg, _⟩
    · exact h.gap g hg
    · rw [hg] at h ⊢
      exact h
  unfold sgL
  rw [List.append_assoc]
  have hh : g ∈ gaps → (g.l ++ s).getD 0 0 = 32 ∨ (g.l ++ s).getD 0 0 = 10 := fun hg => by
    have := gap_len g hg
    rw [hd_get this.2.2]
    exact this.2.1
  cases v with
  | word w =>
    obtain ⟨w0, w1, w2, _⟩ := hv
    refine .word w w0 w1 w2 ?_ h2
    rcases hg with hg | ⟨_, t, e⟩
    · exact .inr (sp_hd _ (hh hg)).1
    · cases e
  | num k =>
    refine .num (numT k).l k (TL.numL_ne k) (numL_dg k) (numL_O hv) ?_ h2
    rcases hg with hg | ⟨_, t, e⟩
    · exact .inr (sp_hd _ (hh hg)).2
    · cases e
  | sign t =>
    obtain ⟨k, hk, rfl⟩ := hv
    have e : (spl (.sign (chN k))).l = [k] := chN_l (sgn_c hk).2.2.2.2
    rw [e] at h2 ⊢
    exact .sign k hk h2
  | fin => exact hv.elim
  | flt => exact hv.elim
theorem Tks.segs {s : List Nat} {ts : List Tk} : ∀ (xs : List Sg) (n c : Nat), (∀ x ∈ xs, OKs x) → Tks s (aft n c (flat xs)).1 (aft n c (flat xs)).2 ts → Tks (flat xs ++ s) n c (duel xs n c ++ ts)
  | [], _, _, _, h => h
  | x :: xs, n, c, hx, h => by
    have e : flat (x :: xs) = sgL x ++ flat xs := rfl
    rw [e, List.append_assoc]
    rw [e, aft_app] at h
    exact (Tks.segs xs _ _ (fun y hy => hx y (List.mem_cons_of_mem _ hy)) h).seg x (hx x List.mem_cons_self)
theorem sg_len (x : Sg) (h : OKs x) : (sgL x).length ≤ 30 := by
  obtain ⟨v, g⟩ := x
  obtain ⟨hv, hg⟩ := h
  unfold sgL
  rw [List.length_append]
  have h2 : g.l.length ≤ 20 := by
    rcases hg with hg | ⟨hg, _⟩
    · exact (gap_len g hg).1
    · have : g.l.length = 0 := by rw [hg]; rfl
      omega
  have h1 : (spl v).l.length ≤ 7 := by
    cases v with
    | word w => exact Nat.le_trans hv.2.2.2 (by omega)
    | num k => exact TL.numL_len (by omega) (Nat.lt_of_le_of_lt hv (by decide))
    | sign t =>
      obtain ⟨k, hk, rfl⟩ := hv
      show (chN k).l.length ≤ 7
      unfold chN; split <;> simp
    | fin => exact hv.elim
    | flt => exact hv.elim
  show (spl v).l.length + g.l.length ≤ 30
  omega
theorem flat_len : ∀ (xs : List Sg), (∀ x ∈ xs, OKs x) → (flat xs).length ≤ 30 * xs.length
  | [], _ => Nat.le_refl _
  | x :: xs, h => by
    have e : flat (x :: xs) = sgL x ++ flat xs := rfl
    rw [e, List.length_append, List.length_cons]
    have h1 := sg_len x (h x List.mem_cons_self)
    have h2 := flat_len xs fun y hy => h y (List.mem_cons_of_mem _ hy)
    omega
theorem duel_len : ∀ (xs : List Sg) (n c : Nat), (duel xs n c).length = xs.length
  | [], _, _ => rfl
  | x :: xs, n, c => by
    show (duel xs _ _).length + 1 = _
    rw [duel_len xs, List.length_cons]
end DL
set_option Elab.async false
set_option linter.all false
set_option maxRecDepth 100000
set_option maxHeartbeats 1000000
/-! Plain: names, runs. -/
namespace DL
open PySem PySem.Spec PyProof.Rows L2
local macro_rules | `(tactic| trivial) => `(tactic| first | omega | (simp; done))

def alAt (m : Int) : Nat := alph.l.getD m.toNat 0
theorem alAt_nat (k : Nat) : alAt (k : Int) = alph.l.getD k 0 := by unfold alAt; rw [Int.toNat_natCast]
def lim26 (n : Nat) : List Int := 26 :: List.replicate (n - 1) 36
theorem lim26_at (n k : Nat) : (lim26 n).getD k 0 ≤ 36 ∧ (k = 0 → (lim26 n).getD k 0 = 26) := by
  unfold lim26
  cases k with
  | zero => simp
  | succ k =>
    simp only [List.getD_cons_succ, Nat.succ_ne_zero, false_implies, and_true]
    rw [List.getD_eq_getElem?_getD, List.getElem?_replicate]
    split <;> simp
theorem lname_E (c : Int) (n : Nat) (hn : 1 ≤ n ∧ n ≤ 20) : ∃ t : Tx, F__law_name [.int c, .int n] = .ok (.str t.s) ∧ t.l.length = n ∧ (n ≤ 12 → isNm t.l = true) ∧ (∀ x ∈ t.l, (isLt x || isDg x) = true) := by
  have hlim : ∀ l ∈ lim26 n, 0 < l ∧ l < 18446744073709551616 := by
    intro l hl
    unfold lim26 at hl
    rcases List.mem_cons.mp hl with rfl | hl
    · omega
    · rw [(List.mem_replicate.mp hl).2]; omega
  have hll : (lim26 n).length = n := by unfold lim26; simp; omega
  have dr := drw_E c (lim26 n) hlim (by omega)
  have dl := drw_len c (lim26 n) hlim (by omega)
  have da := fun k hk => drw_at c (lim26 n) hlim (by omega) k hk
  rw [hll] at dl
  generalize drw c (lim26 n) = ms at *
  have rg := rg1_E ((n : Int) - 1) (by omega)
  have ad := addD_L [26] (List.replicate (n - 1) (36 : Int)) (by simp; omega)
  rw [show [26] ++ List.replicate (n - 1) (36 : Int) = lim26 n from rfl] at ad
  have al : (.str (Str.ofString "abcdefghijklmnopqrstuvwxyz0123456789") : D) = .str alph.s := by rw [alph, tx_s]
  have hm : ∀ m ∈ ms, ∃ k : Nat, m = (k : Int) ∧ k < 36 := fun m hm => by
    obtain ⟨k, hk, rfl⟩ := List.getElem_of_mem hm
    have h1 := da k (by rw [hll]; omega)
    have h2 := lim26_at n k
    have e : ms.getD k 0 = ms[k] := by simp [List.getD_eq_getElem?_getD, hk]
    rw [e] at h1
    exact ⟨ms[k].toNat, by omega, by omega⟩
  have hj : (tjoin (ms.map fun m : Int => chN (alAt m))).l = ms.map fun m : Int => alAt m := by
    show (ms.map fun m : Int => chN (alAt m)).flatMap Tx.l = _
    rw [List.flatMap_map]
    clear da dl dr
    induction ms with
    | nil => rfl
    | cons a r ih =>
      rw [List.flatMap_cons, ih fun m h => hm m (List.mem_cons_of_mem _ h)]
      obtain ⟨k, rfl, hk⟩ := hm a List.mem_cons_self
      have := chN_l (tx_lt alph k (by rw [alph_len]; exact hk))
      rw [alAt_nat, this]
      rfl
  refine ⟨tjoin (ms.map fun m : Int => chN (alAt m)), ?_, ?_, ?_, ?_⟩
  · simp (disch := trivial) [F__law_name, callS_eq, g__law_name, rg]
    rw [compE (fun k : Nat => (36 : Int)) (by simp; omega) (fun k hk => by simp)]
    rw [show (List.range (n - 1)).map (fun _ => (36 : Int)) = List.replicate (n - 1) 36 by rw [List.map_const', List.length_range]]
    simp [ad, dr]
    rw [al]
    rw [compE (fun m : Int => chN (alAt m)) (by omega) (fun m hm' => by
      obtain ⟨k, rfl, hk⟩ := hm m hm'
      have hi := ixD_tx alph k (by rw [alph_len]; exact hk) (by rw [alph_len]; omega)
      have hc := chN_s (tx_lt alph k (by rw [alph_len]; exact hk))
      rw [alAt_nat, E_tx, hc]
      simp [hi])]
    have j := joinD_tx (ms.map fun m : Int => chN (alAt m)) (by
      have : ∀ l : List Tx, (∀ t ∈ l, t.l.length ≤ 1) → (l.map fun t => t.l.length).sum ≤ l.length := by
        intro l
        induction l with
        | nil => intro _; simp
        | cons a r ih =>
          intro h
          have h1 := h a List.mem_cons_self
          have h2 := ih fun t ht => h t (List.mem_cons_of_mem _ ht)
          simp; omega
      refine Nat.le_trans (this _ fun t ht => ?_) (by rw [List.length_map]; omega)
      obtain ⟨m, _, rfl⟩ := List.mem_map.mp ht
      unfold chN; split <;> simp)
    simp [j]
  · rw [hj, List.length_map, dl]
  · intro h12
    unfold isNm
    rw [hj, List.length_map, dl, decide_eq_true hn.1, decide_eq_true h12]
    have h0 : 0 < ms.length := by omega
    obtain ⟨k, hk0, hk⟩ := hm ms[0] (List.getElem_mem _)
    have d0 := da 0 (by rw [hll]; omega)
    have e : ms.getD 0 0 = ms[0] := by simp [List.getD_eq_getElem?_getD, h0]
    rw [e, hk0, (lim26_at n 0).2 rfl] at d0
    have hh : (ms.map fun m : Int => alAt m).getD 0 0 = alph.l.getD k 0 := by
      rw [List.getD_eq_getElem?_getD, List.getElem?_map, List.getElem?_eq_getElem h0, hk0]
      exact alAt_nat k
    rw [hh, (alph_at hk).2 (by omega)]
    simp only [Bool.and_self, Bool.true_and, List.all_map, List.all_eq_true]
    intro m hm'
    obtain ⟨k, rfl, hk⟩ := hm m hm'
    show (isLt (alAt (k : Int)) || isDg (alAt (k : Int))) = true
    rw [alAt_nat]
    exact (alph_at hk).1
  · intro x hx
    rw [hj] at hx
    obtain ⟨m, hm', rfl⟩ := List.mem_map.mp hx
    obtain ⟨k, rfl, hk⟩ := hm m hm'
    show (isLt (alAt (k : Int)) || isDg (alAt (k : Int))) = true
    rw [alAt_nat]
    exact (alph_at hk).1

theorem spl_len {v : Tv} (h : LV v) : (spl v).l.length ≤ 7 := by
  cases v with
  | word w => exact Nat.le_trans h.2.2.2 (by omega)
  | num k => exact TL.numL_len (by omega) (Nat.lt_of_le_of_lt h (by decide))
  | sign t =>
    obtain ⟨k, hk, rfl⟩ := h
    show (chN k).l.length ≤ 7
    unfold chN; split <;> simp
  | fin => exact h.elim
  | flt => exact h.elim
def nilT : Tx := ⟨[], rfl⟩
theorem nil_s : (Str.ofString "") = nilT.s := by decide
theorem flat_snoc (xs : List Sg) (x : Sg) : flat (xs ++ [x]) = flat xs ++ sgL x := by
  unfold flat
  rw [List.flatMap_append]
  simp
theorem Tx.eq {a b : Tx} (h : a.l = b.l) : a = b := by
  cases a; cases b; cases h; rfl

theorem tk_fin (n c : Nat) : (E (⟨.fin, n, c⟩ : Tk)) = .tuple [.str (Str.ofString "end"), .str (Str.ofString ""), .int (n : Int), .int (c : Int)] := rfl
/-- the text and what is due -/
theorem toks_seg (xs : List Sg) (t : Tx) (hx : ∀ x ∈ xs, OKs x) (ht : t.l = flat xs) (hl : xs.length ≤ 40) : F_tokens_of [.str t.s] = .ok (L (duel xs 1 1 ++ [(⟨.fin, (aft 1 1 t.l).1, (aft 1 1 t.l).2⟩ : Tk)])) := by
  have hf := flat_len xs hx
  refine toks_ok t (duel xs 1 1) _ _ ?_ (by rw [ht]; omega) (by rw [duel_len]; omega)
  have := Tks.segs (s := []) (ts := [⟨.fin, (aft 1 1 t.l).1, (aft 1 1 t.l).2⟩]) xs 1 1 hx (by rw [ht]; exact .fin)
  rw [List.append_nil, ← ht] at this
  exact this

/-! cuts -/
theorem cut_from (t : Tx) (a : Nat) (hl : t.l.length ≤ 1000000) (ha : a ≤ t.l.length) : cutAD (some (a : Int)) none (.str t.s) = some (.str (t.cut a t.l.length).s) := by
  show (if t.s.length ≤ LIM then some (PyData.str (cutS t.s (some (a : Int)) none)) else none) = _
  rw [Tx.len, if_pos hl]
  congr 2
  refine TL.ext_tl ?_
  show (cutS t.s (some (a : Int)) none).cps.toList = (t.cut a t.l.length).s.cps.toList
  rw [Tx.cps]
  unfold cutS
  rw [HT.sIx_nat, HT.sIx_none, Tx.len, Tx.cps, Nat.min_eq_left ha]
  show (t.l.drop a).take (t.l.length - a) = (t.l.drop a).take t.l.length
  rw [List.take_of_length_le (by rw [List.length_drop]; exact Nat.le_refl _), List.take_of_length_le (by rw [List.length_drop]; omega)]
/-! _law_good -/
def smT : Tx := tx "abcdefghijklmnopqrstuvwxyz"
def dgT : Tx := tx "0123456789"
theorem sm_mem (c : Nat) : decide (c ∈ smT.l) = isLt c := by
  rw [show smT.l = List.range' 97 26 by decide]
  unfold isLt
  rw [← Bool.decide_and, decide_eq_decide, List.mem_range'_1]
  omega
theorem dg_mem (c : Nat) : decide (c ∈ dgT.l) = isDg c := by
  rw [show dgT.l = List.range' 48 10 by decide]
  unfold isDg
  rw [← Bool.decide_and, decide_eq_decide, List.mem_range'_1]
  omega
theorem nin_tx (c : Nat) (t : Tx) : inSD true (.str ⟨#[c]⟩) (.str t.s) = some (.bool (!decide (c ∈ t.l))) := by
  show some (PyData.bool (true != decide (c ∈ t.s.cps.toList))) = _
  rw [Tx.cps, Bool.true_bne]
theorem good_E (t : Tx) (hl : t.l.length ≤ 1000000) : F__law_good [.str t.s] = .ok (.bool (isNm t.l)) := by
  have l := lenD_tx t hl
  have sg := sgnO_tx t
  have n1 := fun c => nin_tx c smT
  have n2 := fun c => nin_tx c dgT
  simp only [sm_mem, dg_mem] at n1 n2
  have e1 : (.str (Str.ofString "abcdefghijklmnopqrstuvwxyz") : D) = .str smT.s := by rw [smT, tx_s]
  have e2 : (.str (Str.ofString "0123456789") : D) = .str dgT.s := by rw [dgT, tx_s]
  generalize smT = sm at *
  generalize dgT = dg at *
  unfold isNm
  by_cases h1 : 1 ≤ t.l.length
  · have m1 : ¬ ((t.l.length : Int) < 1) := by omega
    by_cases h2 : t.l.length ≤ 12
    · have m2 : ¬ (12 < (t.l.length : Int)) := by omega
      have i0 := ixD_tx t 0 (by omega) hl
      have d1 := decide_eq_true h1
      have d2 := decide_eq_true h2
      rw [d1, d2]
      generalize t.l.getD 0 0 = x0 at *
      simp at i0
      cases h3 : isLt x0 with
      | false => simp [F__law_good, callS_eq, g__law_good, e1, l, m1, m2, i0, n1, h3]
      | true =>
        simp [F__law_good, callS_eq, g__law_good, e1, e2, l, m1, m2, i0, n1, h3, sg]
        generalize hf : forS _ _ _ _ = o
        have := for_turns (g := fun c : Nat => PyData.str ⟨#[c]⟩) (xs := t.l) hf (fun i γ => ∃ x, γ = [some (.str t.s), some (.str sm.s), x] ∧ (t.l.take i).all (fun c => isLt c || isDg c) = true)
          (fun o => (∃ x, o = .nx [some (.str t.s), some (.str sm.s), x] ∧ t.l.all (fun c => isLt c || isDg c) = true) ∨ (o = .rt (.bool false) ∧ t.l.all (fun c => isLt c || isDg c) = false)) ⟨none, rfl, by simp⟩ (by
          rintro i hi γ ⟨x, rfl, hx⟩
          refine ⟨_, rfl, ?_⟩
          have ht : (t.l.take (i + 1)).all (fun c => isLt c || isDg c) = (isLt t.l[i] || isDg t.l[i]) := by
            rw [List.take_succ_eq_append_getElem hi, List.all_append, hx]
            simp
          have hn : (isLt t.l[i] || isDg t.l[i]) = false → t.l.all (fun c => isLt c || isDg c) = false := fun z => by
            rw [List.all_eq_false]
            exact ⟨t.l[i], List.getElem_mem _, by rw [z]; decide⟩
          rw [ht]
          generalize t.l[i] = c at *
          cases p : isLt c <;> cases q : isDg c <;> simp [n1, n2, p, q]
          rw [p, q] at hn
          simpa using hn) (by
          rintro γ ⟨x, rfl, hx⟩
          rw [List.take_length] at hx
          exact .inl ⟨x, rfl, hx⟩)
        rcases this with ⟨x, rfl, h4⟩ | ⟨rfl, h4⟩
        · rw [h4]; simp
        · rw [h4]; simp
    · have m2 : 12 < (t.l.length : Int) := by omega
      simp [F__law_good, callS_eq, g__law_good, e1, l, m1, m2, h2]
  · have m1 : (t.l.length : Int) < 1 := by omega
    simp [F__law_good, callS_eq, g__law_good, e1, l, m1, h1]
/-! faulty runs -/
def runsT : List Tx := [tx "01", tx "00", tx "007", tx "1000001", tx "99999999999", tx "5a", tx "0x", tx "A", tx "@", tx "!", tx "\"", tx "'", tx ".", tx "5.5", tx "?", tx ">", tx "^", tx "/", tx "_", tx "&", tx "|", tx "~", tx "$", tx "\\", tx "Z9", tx "[", tx "]", tx "a_", tx "`", tx "aB"]
def sh (w : Tx) : Nat := if w = tx "5.5" ∨ w = tx "a_" ∨ w = tx "aB" then 1 else 0
theorem run0 (s : List Nat) (n c : Nat) : Tks ([48, 49] ++ 32 :: s) n c ([] ++ [⟨.flt, n, c + 0⟩]) := .badn [48, 49] (by decide) (by decide) (.inr rfl) (.inl (by decide))
theorem run1 (s : List Nat) (n c : Nat) : Tks ([48, 48] ++ 32 :: s) n c ([] ++ [⟨.flt, n, c + 0⟩]) := .badn [48, 48] (by decide) (by decide) (.inr rfl) (.inl (by decide))
theorem run2 (s : List Nat) (n c : Nat) : Tks ([48, 48, 55] ++ 32 :: s) n c ([] ++ [⟨.flt, n, c + 0⟩]) := .badn [48, 48, 55] (by decide) (by decide) (.inr rfl) (.inl (by decide))
theorem run3 (s : List Nat) (n c : Nat) : Tks ([49, 48, 48, 48, 48, 48, 49] ++ 32 :: s) n c ([] ++ [⟨.flt, n, c + 0⟩]) := .badn [49, 48, 48, 48, 48, 48, 49] (by decide) (by decide) (.inr rfl) (.inl (by decide))
theorem run4 (s : List Nat) (n c : Nat) : Tks ([57, 57, 57, 57, 57, 57, 57, 57, 57, 57, 57] ++ 32 :: s) n c ([] ++ [⟨.flt, n, c + 0⟩]) := .badn [57, 57, 57, 57, 57, 57, 57, 57, 57, 57, 57] (by decide) (by decide) (.inr rfl) (.inl (by decide))
theorem run5 (s : List Nat) (n c : Nat) : Tks ([53, 97] ++ 32 :: s) n c ([] ++ [⟨.flt, n, c + 0⟩]) := .badn [53] (by decide) (by decide) (.inr rfl) (.inr ⟨by simp, rfl⟩)
theorem run6 (s : List Nat) (n c : Nat) : Tks ([48, 120] ++ 32 :: s) n c ([] ++ [⟨.flt, n, c + 0⟩]) := .badn [48] (by decide) (by decide) (.inr rfl) (.inr ⟨by simp, rfl⟩)
theorem run7 (s : List Nat) (n c : Nat) : Tks ([65] ++ 32 :: s) n c ([] ++ [⟨.flt, n, c + 0⟩]) := .bad 65 (by decide) (by decide) (by decide) (by decide) (by decide) (by decide)
theorem run8 (s : List Nat) (n c : Nat) : Tks ([64] ++ 32 :: s) n c ([] ++ [⟨.flt, n, c + 0⟩]) := .bad 64 (by decide) (by decide) (by decide) (by decide) (by decide) (by decide)
theorem run9 (s : List Nat) (n c : Nat) : Tks ([33] ++ 32 :: s) n c ([] ++ [⟨.flt, n, c + 0⟩]) := .bad 33 (by decide) (by decide) (by decide) (by decide) (by decide) (by decide)
theorem run10 (s : List Nat) (n c : Nat) : Tks ([34] ++ 32 :: s) n c ([] ++ [⟨.flt, n, c + 0⟩]) := .bad 34 (by decide) (by decide) (by decide) (by decide) (by decide) (by decide)
theorem run11 (s : List Nat) (n c : Nat) : Tks ([39] ++ 32 :: s) n c ([] ++ [⟨.flt, n, c + 0⟩]) := .bad 39 (by decide) (by decide) (by decide) (by decide) (by decide) (by decide)
theorem run12 (s : List Nat) (n c : Nat) : Tks ([46] ++ 32 :: s) n c ([] ++ [⟨.flt, n, c + 0⟩]) := .bad 46 (by decide) (by decide) (by decide) (by decide) (by decide) (by decide)
theorem run13 (s : List Nat) (n c : Nat) : Tks ([53, 46, 53] ++ 32 :: s) n c ([⟨.num 5, n, c⟩] ++ [⟨.flt, n, c + 1⟩]) := .num [53] 5 (by decide) (by decide) (by decide) (.inr ⟨rfl, rfl⟩) (.bad 46 (by decide) (by decide) (by decide) (by decide) (by decide) (by decide))
theorem run14 (s : List Nat) (n c : Nat) : Tks ([63] ++ 32 :: s) n c ([] ++ [⟨.flt, n, c + 0⟩]) := .bad 63 (by decide) (by decide) (by decide) (by decide) (by decide) (by decide)
theorem run15 (s : List Nat) (n c : Nat) : Tks ([62] ++ 32 :: s) n c ([] ++ [⟨.flt, n, c + 0⟩]) := .bad 62 (by decide) (by decide) (by decide) (by decide) (by decide) (by decide)
theorem run16 (s : List Nat) (n c : Nat) : Tks ([94] ++ 32 :: s) n c ([] ++ [⟨.flt, n, c + 0⟩]) := .bad 94 (by decide) (by decide) (by decide) (by decide) (by decide) (by decide)
theorem run17 (s : List Nat) (n c : Nat) : Tks ([47] ++ 32 :: s) n c ([] ++ [⟨.flt, n, c + 0⟩]) := .bad 47 (by decide) (by decide) (by decide) (by decide) (by decide) (by decide)
theorem run18 (s : List Nat) (n c : Nat) : Tks ([95] ++ 32 :: s) n c ([] ++ [⟨.flt, n, c + 0⟩]) := .bad 95 (by decide) (by decide) (by decide) (by decide) (by decide) (by decide)
theorem run19 (s : List Nat) (n c : Nat) : Tks ([38] ++ 32 :: s) n c ([] ++ [⟨.flt, n, c + 0⟩]) := .bad 38 (by decide) (by decide) (by decide) (by decide) (by decide) (by decide)
theorem run20 (s : List Nat) (n c : Nat) : Tks ([124] ++ 32 :: s) n c ([] ++ [⟨.flt, n, c + 0⟩]) := .bad 124 (by decide) (by decide) (by decide) (by decide) (by decide) (by decide)
theorem run21 (s : List Nat) (n c : Nat) : Tks ([126] ++ 32 :: s) n c ([] ++ [⟨.flt, n, c + 0⟩]) := .bad 126 (by decide) (by decide) (by decide) (by decide) (by decide) (by decide)
theorem run22 (s : List Nat) (n c : Nat) : Tks ([36] ++ 32 :: s) n c ([] ++ [⟨.flt, n, c + 0⟩]) := .bad 36 (by decide) (by decide) (by decide) (by decide) (by decide) (by decide)
theorem run23 (s : List Nat) (n c : Nat) : Tks ([92] ++ 32 :: s) n c ([] ++ [⟨.flt, n, c + 0⟩]) := .bad 92 (by decide) (by decide) (by decide) (by decide) (by decide) (by decide)
theorem run24 (s : List Nat) (n c : Nat) : Tks ([90, 57] ++ 32 :: s) n c ([] ++ [⟨.flt, n, c + 0⟩]) := .bad 90 (by decide) (by decide) (by decide) (by decide) (by decide) (by decide)
theorem run25 (s : List Nat) (n c : Nat) : Tks ([91] ++ 32 :: s) n c ([] ++ [⟨.flt, n, c + 0⟩]) := .bad 91 (by decide) (by decide) (by decide) (by decide) (by decide) (by decide)
theorem run26 (s : List Nat) (n c : Nat) : Tks ([93] ++ 32 :: s) n c ([] ++ [⟨.flt, n, c + 0⟩]) := .bad 93 (by decide) (by decide) (by decide) (by decide) (by decide) (by decide)
theorem run27 (s : List Nat) (n c : Nat) : Tks ([97, 95] ++ 32 :: s) n c ([⟨.word (tx "a"), n, c⟩] ++ [⟨.flt, n, c + 1⟩]) := .word (tx "a") (by decide) (by decide) (by decide) (.inr rfl) (.bad 95 (by decide) (by decide) (by decide) (by decide) (by decide) (by decide))
theorem run28 (s : List Nat) (n c : Nat) : Tks ([96] ++ 32 :: s) n c ([] ++ [⟨.flt, n, c + 0⟩]) := .bad 96 (by decide) (by decide) (by decide) (by decide) (by decide) (by decide)
theorem run29 (s : List Nat) (n c : Nat) : Tks ([97, 66] ++ 32 :: s) n c ([⟨.word (tx "a"), n, c⟩] ++ [⟨.flt, n, c + 1⟩]) := .word (tx "a") (by decide) (by decide) (by decide) (.inr rfl) (.bad 66 (by decide) (by decide) (by decide) (by decide) (by decide) (by decide))
theorem run_E (w : Tx) (hw : w ∈ runsT) (s : List Nat) (n c : Nat) : ∃ us : List Tk, us.length ≤ 1 ∧ Tks (w.l ++ 32 :: s) n c (us ++ [⟨.flt, n, c + sh w⟩]) := by
  unfold runsT at hw
  simp only [List.mem_cons, List.not_mem_nil, or_false] at hw
  rcases hw with rfl | rfl | rfl | rfl | rfl | rfl | rfl | rfl | rfl | rfl | rfl | rfl | rfl | rfl | rfl | rfl | rfl | rfl | rfl | rfl | rfl | rfl | rfl | rfl | rfl | rfl | rfl | rfl | rfl | rfl
  · exact ⟨_, by decide, run0 s n c⟩
  · exact ⟨_, by decide, run1 s n c⟩
  · exact ⟨_, by decide, run2 s n c⟩
  · exact ⟨_, by decide, run3 s n c⟩
  · exact ⟨_, by decide, run4 s n c⟩
  · exact ⟨_, by decide, run5 s n c⟩
  · exact ⟨_, by decide, run6 s n c⟩
  · exact ⟨_, by decide, run7 s n c⟩
  · exact ⟨_, by decide, run8 s n c⟩
  · exact ⟨_, by decide, run9 s n c⟩
  · exact ⟨_, by decide, run10 s n c⟩
  · exact ⟨_, by decide, run11 s n c⟩
  · exact ⟨_, by decide, run12 s n c⟩
  · exact ⟨[_], Nat.le_refl _, run13 s n c⟩
  · exact ⟨_, by decide, run14 s n c⟩
  · exact ⟨_, by decide, run15 s n c⟩
  · exact ⟨_, by decide, run16 s n c⟩
  · exact ⟨_, by decide, run17 s n c⟩
  · exact ⟨_, by decide, run18 s n c⟩
  · exact ⟨_, by decide, run19 s n c⟩
  · exact ⟨_, by decide, run20 s n c⟩
  · exact ⟨_, by decide, run21 s n c⟩
  · exact ⟨_, by decide, run22 s n c⟩
  · exact ⟨_, by decide, run23 s n c⟩
  · exact ⟨_, by decide, run24 s n c⟩
  · exact ⟨_, by decide, run25 s n c⟩
  · exact ⟨_, by decide, run26 s n c⟩
  · exact ⟨[_], Nat.le_refl _, run27 s n c⟩
  · exact ⟨_, by decide, run28 s n c⟩
  · exact ⟨[_], Nat.le_refl _, run29 s n c⟩
theorem run_len : ∀ w ∈ runsT, w.l.length ≤ 11 := by decide
end DL
set_option Elab.async false
set_option linter.all false
set_option maxRecDepth 100000
set_option maxHeartbeats 1000000
/-! Plain: the law of the first faulty token. -/
namespace DL
open PySem PySem.Spec PyProof.Rows L2
local macro_rules | `(tactic| trivial) => `(tactic| first | omega | (simp; done))

def shD : D := mk3C [(("5.5" : Str), 1), (("a_" : Str), 1), (("aB" : Str), 1)]
theorem shD_l : shD = mk3 [(.inr (tx "5.5").s, .int 1), (.inr (tx "a_").s, .int 1), (.inr (tx "aB").s, .int 1)] := by
  rw [tx_s, tx_s, tx_s]
  rfl
theorem sh01 (w : Tx) : sh w = 0 ∨ sh w = 1 := by unfold sh; split <;> simp
theorem sh_val (w : Tx) : val3 shD (.str w.s) = some (if sh w = 1 then some (.int 1) else none) := by
  rw [shD_l]
  show (es3 _).bind _ = _
  rw [es3_mk]
  show some (valG _ (Sum.inr w.s : Key)) = _
  congr 1
  unfold valG sh
  have e : ∀ a : Tx, decide ((Sum.inr a.s : Key) = .inr w.s) = decide (a = w) := fun a => by
    rw [decide_eq_decide, Sum.inr.injEq, Tx.s_inj]
  simp only [List.find?_cons, e]
  by_cases h1 : w = tx "5.5"
  · subst h1; rfl
  · by_cases h2 : w = tx "a_"
    · subst h2; rfl
    · by_cases h3 : w = tx "aB"
      · subst h3; rfl
      · rw [if_neg (by simp [h1, h2, h3]), decide_eq_false (fun z => h1 z.symm), decide_eq_false (fun z => h2 z.symm), decide_eq_false (fun z => h3 z.symm)]
        rfl
/-! names -/
def a12 : Tx := tx "aaaaaaaaaaaa"
def a13 : Tx := tx "aaaaaaaaaaaaa"
theorem mul12 : mulSD (.str (Str.ofString "a")) (.int 12) = some (.str a12.s) := by
  have h : repS (Str.ofString "a") 12 = a12.s := by decide
  rw [← h]
  unfold mulSD
  dsimp only
  rw [if_pos (by decide)]
theorem mul13 : mulSD (.str (Str.ofString "a")) (.int 13) = some (.str a13.s) := by
  have h : repS (Str.ofString "a") 13 = a13.s := by decide
  rw [← h]
  unfold mulSD
  dsimp only
  rw [if_pos (by decide)]
theorem part3 (sc sz : Option D) (t : Tx) (ht : t.l.length ≤ 20) {o : Out} (h : t_law_3 [sc, sz, some (.str t.s), none, none, none, none, none, none, none, none, none, none, none, none, none, none, none, none] = o) :
    ∃ a b, o = .nx [sc, sz, some (.str t.s), a, none, none, none, none, none, none, none, none, none, none, b, none, none, none, none] := by
  have e1 : (.str (Str.ofString "") : D) = .str nilT.s := by rw [nil_s]
  have e2 : (.str (Str.ofString "trick") : D) = .str (tx "trick").s := by rw [tx_s]
  have el : (.list [.str t.s, .str (Str.ofString ""), .str (Str.ofString "trick"), .str a12.s, .str a13.s] : D) = L [t, nilT, tx "trick", a12, a13] := by rw [e1, e2]; rfl
  have hl : ∀ x ∈ [t, nilT, tx "trick", a12, a13], x.l.length ≤ 1000000 := by
    intro x hx
    simp only [List.mem_cons, List.not_mem_nil, or_false] at hx
    rcases hx with rfl | rfl | rfl | rfl | rfl
    · omega
    · decide
    · decide
    · decide
    · decide
  simp [t_law_3, mul12, mul13, el] at h
  generalize [t, nilT, tx "trick", a12, a13] = ts at *
  obtain ⟨γ, e, a, b, rfl⟩ := for_E h (fun i γ => ∃ a b, γ = [sc, sz, some (.str t.s), a, none, none, none, none, none, none, none, none, none, none, b, none, none, none, none]) ⟨_, _, rfl⟩ (by
    rintro i hi γ ⟨a, b, rfl⟩
    refine ⟨_, rfl, ?_⟩
    have hx := hl ts[i] (List.getElem_mem _)
    have n1 := isnm_E ts[i] hx
    have n2 := good_E ts[i] hx
    have ib : ∀ b : Bool, isiD "bool" (.bool b) = some (.bool true) := fun _ => rfl
    rw [E_tx]
    generalize ts[i] = x at *
    generalize isNm x.l = q at *
    simp [n1, n2, ib])
  exact ⟨_, _, e⟩
/-! the texts -/
def dtO (fo : D) : Prop := fo = .none
def PQ (sc sz nm on : Option D) (cnt f1 f2 : Nat) (i : Nat) (γ : Env) : Prop := ∃ (xs : List Sg) (p t : Tx) (fo : D) (b c d e f g : Option D),
  γ = [sc, sz, nm, on, some (L runsT), some shD, some (.str t.s), some (.str p.s), some (.tuple [.int (aft 1 1 t.l).1, .int (aft 1 1 t.l).2]), some fo, some (.int cnt), some (.int f1), some (.int f2), b, c, d, e, f, g] ∧
  p.l = flat xs ∧ xs.length = i ∧ (∀ x ∈ xs, OKs x) ∧ t.l.length ≤ 50 * i ∧
  ((fo = .none ∧ t = p ∧ i ≤ f1) ∨ ∃ (xs1 : List Sg) (w : Tx) (rest : List Nat), t.l = flat xs1 ++ (w.l ++ 32 :: rest) ∧ w ∈ runsT ∧ xs1.length ≤ i ∧ (∀ x ∈ xs1, OKs x) ∧ fo = .tuple [.int (aft 1 1 (flat xs1)).1, .int ((aft 1 1 (flat xs1)).2 + sh w : Nat)])
def spT : Tx := tx " "
theorem part14 (sc : D) (sz nm on a1 : Option D) (c : Int → Int) (C : Scr sc c) (cnt f1 f2 : Nat) (h15 : cnt ≤ 15) (hf1 : f1 < cnt) {o : Out}
    (h : t_law_14 [some sc, sz, nm, on, some (L runsT), some shD, some (.str nilT.s), some (.str nilT.s), some (.tuple [.int 1, .int 1]), some .none, some (.int cnt), some (.int f1), some (.int f2), none, a1, none, none, none, none] = o) : ∃ γ, o = .nx γ ∧ PQ (some sc) sz nm on cnt f1 f2 cnt γ := by
  have rg := rg1_E (cnt : Int) (by omega)
  rw [Int.toNat_natCast] at rg
  simp (disch := trivial) [t_law_14, rg] at h
  obtain ⟨γ, e, hp⟩ := for_R h (PQ (some sc) sz nm on cnt f1 f2) ⟨[], nilT, nilT, .none, none, a1, none, none, none, none, rfl, rfl, rfl, by simp, Nat.zero_le _, .inl ⟨rfl, rfl, Nat.zero_le _⟩⟩ (by
    rintro i hi γ ⟨xs, p, t, fo, b, c', d, e, f, g', rfl, hp, hxl, hok, htl, hfo⟩
    refine ⟨_, rfl, ?_⟩
    have hc3 := C.cell (3 + (i : Int)) (by omega)
    obtain ⟨v, hv, htok⟩ := ltok_E (c (3 + i))
    have hsp := spl_E v hv
    have hsl := spl_len hv
    obtain ⟨g, hg, hgp⟩ := lgap_E (c (3 + i) / 3 + i)
    have hgl := (gap_len g hg).1
    have hfl := flat_len xs hok
    rw [hxl, ← hp] at hfl
    have i0 : ixD (.tuple [.str v.kd, v.vl]) (.int 0) = some (.str v.kd) := rfl
    have i1 : ixD (.tuple [.str v.kd, v.vl]) (.int 1) = some v.vl := rfl
    have p0 : ixD (.tuple [.int (aft 1 1 t.l).1, .int (aft 1 1 t.l).2]) (.int 0) = some (.int (aft 1 1 t.l).1) := rfl
    have p1 : ixD (.tuple [.int (aft 1 1 t.l).1, .int (aft 1 1 t.l).2]) (.int 1) = some (.int (aft 1 1 t.l).2) := rfl
    have s1 := addD_tx p (spl v) (by omega)
    have s2 := addD_tx (p.app (spl v)) g (by rw [app_len]; omega)
    -- the end of the turn
    have key : ∀ (u : Tx) (fo : D) (b c' d f g' : Option D), u.l.length ≤ 19 → seqS (sSet 6 (b2 (b2 (eV 6) (eV 16) addD) (eV 17) addD)) (sSet 8 (cF 3 (aC (b2 (eV 8) (eC (.int 0)) ixD) (aC (b2 (eV 8) (eC (.int 1)) ixD) (aC (b2 (eV 16) (eV 17) addD) (aN)))) F__law_after)) [some sc, sz, nm, on, some (L runsT), some shD, some (.str t.s), some (.str ((p.app (spl v)).app g).s), some (.tuple [.int (aft 1 1 t.l).1, .int (aft 1 1 t.l).2]), some fo, some (.int cnt), some (.int f1), some (.int f2), b, c', d, some (.str u.s), some (.str g.s), g'] = .nx [some sc, sz, nm, on, some (L runsT), some shD, some (.str ((t.app u).app g).s), some (.str ((p.app (spl v)).app g).s), some (.tuple [.int (aft 1 1 ((t.app u).app g).l).1, .int (aft 1 1 ((t.app u).app g).l).2]), some fo, some (.int cnt), some (.int f1), some (.int f2), b, c', d, some (.str u.s), some (.str g.s), g'] := fun u fo b c' d f g' hu => by
      have s1 := addD_tx t u (by omega)
      have s2 := addD_tx (t.app u) g (by rw [app_len]; omega)
      have s3 := addD_tx u g (by omega)
      have la := lafter_E (u.app g) (aft 1 1 t.l).1 (aft 1 1 t.l).2 (by rw [app_len]; omega)
      have ea : aft 1 1 ((t.app u).app g).l = aft (aft 1 1 t.l).1 (aft 1 1 t.l).2 (u.app g).l := by
        have : ((t.app u).app g).l = t.l ++ (u.app g).l := List.append_assoc _ _ _
        rw [this, aft_app]
      rw [ea]
      generalize (aft 1 1 t.l).1 = a1 at *
      generalize (aft 1 1 t.l).2 = a2 at *
      generalize L runsT = rr at *
      generalize shD = sd at *
      simp [s1, s2, s3, p0, p1, la]
    have hxs : ∀ x ∈ xs ++ [(v, g)], OKs x := fun y hy => by
      rcases List.mem_append.mp hy with hy | hy
      · exact hok y hy
      · rw [List.mem_singleton] at hy
        subst hy
        exact ⟨hv, .inl hg⟩
    have hpl : ((p.app (spl v)).app g).l = flat (xs ++ [(v, g)]) := by
      rw [flat_snoc, ← hp]
      exact List.append_assoc _ _ _
    have c2 := C.cell 2 (by omega)
    obtain ⟨w, hw, hwi⟩ : ∃ w ∈ runsT, ixD (L runsT) (.int ((c 2 + i) % 30)) = some (.str w.s) := by
      have hl : runsT.length = 30 := rfl
      refine ⟨gt runsT ((c 2 + i) % 30), ?_, ?_⟩
      · unfold gt
        rw [if_neg (by omega), List.getD_eq_getElem?_getD, List.getElem?_eq_getElem (by omega)]
        exact List.getElem_mem _
      · rw [ixD_L runsT _ (by omega)]
        rfl
    have hwl := run_len w hw
    have ln : lenD [L runsT] = some (.int 30) := lenD_L _
    have ex : (.str (Str.ofString " ") : D) = .str spT.s := by rw [spT, tx_s]
    have spl1 : spT.l.length = 1 := by decide
    have w1 := addD_tx w spT (by omega)
    have w2 := addD_tx (w.app spT) (spl v) (by rw [app_len]; omega)
    have hul : ((w.app spT).app (spl v)).l.length ≤ 19 := by rw [app_len, app_len]; omega
    have hvl := sh_val w
    have hs01 := sh01 w
    have none_ : isNoneD (.none : D) = true := rfl
    have tup_ : ∀ ds, isNoneD (.tuple ds : D) = false := fun _ => rfl
    have k1 := fun fo b c' d f g' => key (spl v) fo b c' d f g' (by omega)
    have k2 := fun fo b c' d f g' => key ((w.app spT).app (spl v)) fo b c' d f g' hul
    have hpl2 : ((p.app (spl v)).app g).l = flat (xs ++ [(v, g)]) := hpl
    have hl1 : ((t.app (spl v)).app g).l.length ≤ 50 * (i + 1) := by rw [app_len, app_len]; omega
    have hl2 : ((t.app ((w.app spT).app (spl v))).app g).l.length ≤ 50 * (i + 1) := by
      have := app_len (t.app ((w.app spT).app (spl v))) g
      have := app_len t ((w.app spT).app (spl v))
      omega
    have l1 : ((t.app (spl v)).app g).l = t.l ++ ((spl v).l ++ g.l) := List.append_assoc _ _ _
    have l2 : ((t.app ((w.app spT).app (spl v))).app g).l = t.l ++ (w.l ++ 32 :: ((spl v).l ++ g.l)) := by
      show (t.l ++ ((w.l ++ spT.l) ++ (spl v).l)) ++ g.l = _
      rw [show spT.l = [32] by decide]
      simp
    -- no fault in this turn
    have finA : ∀ b c' d f g', ¬ (i = f1 ∨ i = f2) → PQ (some sc) sz nm on cnt f1 f2 (i + 1) [some sc, sz, nm, on, some (L runsT), some shD, some (.str ((t.app (spl v)).app g).s), some (.str ((p.app (spl v)).app g).s), some (.tuple [.int (aft 1 1 ((t.app (spl v)).app g).l).1, .int (aft 1 1 ((t.app (spl v)).app g).l).2]), some fo, some (.int cnt), some (.int f1), some (.int f2), b, c', d, some (.str (spl v).s), f, g'] := fun b c' d f g' hn => by
      refine ⟨xs ++ [(v, g)], _, _, fo, _, _, _, _, _, _, rfl, hpl2, by simp [hxl], hxs, hl1, ?_⟩
      rcases hfo with ⟨e1, e2, e3⟩ | ⟨xs1, w', rest, e1, e2, e3, e4, e5⟩
      · left
        exact ⟨e1, by rw [e2], by omega⟩
      · right
        refine ⟨xs1, w', rest ++ ((spl v).l ++ g.l), ?_, e2, by omega, e4, e5⟩
        rw [l1, e1]
        simp
    -- a fault, the first one or not
    have finB : ∀ fo2 b c' d f g', fo2 = (if isNoneD fo = true then .tuple [.int (aft 1 1 t.l).1, .int ((aft 1 1 t.l).2 + sh w : Nat)] else fo) → PQ (some sc) sz nm on cnt f1 f2 (i + 1) [some sc, sz, nm, on, some (L runsT), some shD, some (.str ((t.app ((w.app spT).app (spl v))).app g).s), some (.str ((p.app (spl v)).app g).s), some (.tuple [.int (aft 1 1 ((t.app ((w.app spT).app (spl v))).app g).l).1, .int (aft 1 1 ((t.app ((w.app spT).app (spl v))).app g).l).2]), some fo2, some (.int cnt), some (.int f1), some (.int f2), b, c', d, some (.str ((w.app spT).app (spl v)).s), f, g'] := fun fo2 b c' d f g' hn => by
      refine ⟨xs ++ [(v, g)], _, _, fo2, _, _, _, _, _, _, rfl, hpl2, by simp [hxl], hxs, hl2, ?_⟩
      right
      rcases hfo with ⟨e1, e2, e3⟩ | ⟨xs1, w', rest, e1, e2, e3, e4, e5⟩
      · refine ⟨xs, w, (spl v).l ++ g.l, ?_, hw, by omega, hok, ?_⟩
        · rw [l2, e2, hp]
        · rw [hn, e1, e2, if_pos none_, hp]
      · refine ⟨xs1, w', rest ++ (w.l ++ 32 :: ((spl v).l ++ g.l)), ?_, e2, by omega, e4, ?_⟩
        · rw [l2, e1]
          simp
        · rw [hn, e5, tup_, if_neg (by decide)]
    clear key hpl hpl2 hl1 hl2 l1 l2
    generalize ((w.app spT).app (spl v)) = u at *
    generalize seqS (sSet 6 (b2 (b2 (eV 6) (eV 16) addD) (eV 17) addD)) (sSet 8 (cF 3 (aC (b2 (eV 8) (eC (.int 0)) ixD) (aC (b2 (eV 8) (eC (.int 1)) ixD) (aC (b2 (eV 16) (eV 17) addD) (aN)))) F__law_after)) = T at *
    generalize L runsT = rr at *
    generalize shD = sd at *
    generalize (aft 1 1 t.l).1 = q1 at *
    generalize (aft 1 1 t.l).2 = q2 at *
    generalize c (3 + (i : Int)) = c3 at *
    by_cases hc : i = f1 ∨ i = f2
    · have hB : seqS (sSet 18 (b2 (eV 4) (b2 (cB (aC (b2 (cF 2 (aC (eV 0) (aC (eC (.int 2)) aN)) F__law_cell) (eV 13) addD) aN) intD) (cB (aC (eV 4) aN) lenD) modD) ixD)) (seqS (ifS (b1 (b1 (eV 9) fun d => some (.bool (isNoneD d))) boolO) (sSet 9 (eT (aC (b2 (eV 8) (eC (.int 0)) ixD) (aC (b2 (b2 (eV 8) (eC (.int 1)) ixD) (eDget2 val3 5 (eV 18) (eC (.int 0))) addD) aN)))) sNx) (sSet 16 (b2 (b2 (eV 18) (eC (.str (Str.ofString " "))) addD) (eV 16) addD))) [some sc, sz, nm, on, some rr, some sd, some (.str t.s), some (.str ((p.app (spl v)).app g).s), some (.tuple [.int q1, .int q2]), some fo, some (.int cnt), some (.int f1), some (.int f2), some (.int (i : Int)), c', some (.tuple [.str v.kd, v.vl]), some (.str (spl v).s), some (.str g.s), g'] = .nx [some sc, sz, nm, on, some rr, some sd, some (.str t.s), some (.str ((p.app (spl v)).app g).s), some (.tuple [.int q1, .int q2]), some (if isNoneD fo = true then .tuple [.int q1, .int (q2 + sh w : Nat)] else fo), some (.int cnt), some (.int f1), some (.int f2), some (.int (i : Int)), c', some (.tuple [.str v.kd, v.vl]), some (.str u.s), some (.str g.s), some (.str w.s)] := by
        cases hno : isNoneD fo with
        | true =>
          rcases hs01 with h0 | h0
          · rw [h0] at hvl
            simp (disch := trivial) [c2, ln, hwi, hno, p0, p1, hvl, ex, w1, w2, modD_int, h0]
          · rw [h0] at hvl
            simp (disch := trivial) [c2, ln, hwi, hno, p0, p1, hvl, ex, w1, w2, modD_int, h0]
        | false => simp (disch := trivial) [c2, ln, hwi, hno, ex, w1, w2, modD_int]
      have fB := finB _ (some (.int (i : Int))) c' (some (.tuple [.str v.kd, v.vl])) (some (.str g.s)) (some (.str w.s)) rfl
      clear finA finB
      generalize (if isNoneD fo = true then (.tuple [.int q1, .int (q2 + sh w : Nat)] : D) else fo) = fo2 at *
      generalize seqS (sSet 18 _) _ = T2 at *
      simp (disch := trivial) [hc3, htok, hsp, hgp, i1, s1, s2, fdivW_int]
      have ht : (if (i : Int) = f1 then Rs.ok true else Rs.ok (decide ((i : Int) = f2))) = Rs.ok true := by
        rcases hc with hc | hc
        · rw [if_pos (by omega)]
        · by_cases h1 : (i : Int) = f1
          · rw [if_pos h1]
          · rw [if_neg h1, decide_eq_true (by omega)]
      rw [ht]
      simp
      rw [hB]
      simp
      rw [k2 _ _ _ _ none]
      exact fB
    · have fA := finA (some (.int (i : Int))) c' (some (.tuple [.str v.kd, v.vl])) (some (.str g.s)) g' hc
      clear finA finB
      generalize seqS (sSet 18 _) _ = T2 at *
      simp (disch := trivial) [hc3, htok, hsp, hgp, i1, s1, s2, fdivW_int]
      have ht : (if (i : Int) = f1 then Rs.ok true else Rs.ok (decide ((i : Int) = f2))) = Rs.ok false := by
        rw [if_neg (by omega), decide_eq_false (by omega)]
      rw [ht]
      simp
      rw [k1 _ _ _ _ none]
      exact fA)
  exact ⟨γ, e, hp⟩
/-- what _law_told answers -/
theorem told_ok (t : Tx) {ts : List Tk} (h : F_tokens_of [.str t.s] = .ok (L ts)) (hl : ts.length ≤ 1000) : F__law_told [.str t.s] = .ok (.tuple [.str (Str.ofString "value"), .int ts.length, .int 0, .str (Str.ofString "")]) := by
  have ln : lenD [L ts] = some (.int ts.length) := lenD_L _
  generalize L ts = l at *
  simp [F__law_told, callS_eq, g__law_told, tryS, h, ln]
  rw [szT_ok (by simp [LIM])]
  rfl
theorem told_er (t : Tx) {n c : Nat} (h : F_tokens_of [.str t.s] = .er "BadText" [("reason", .str "token"), ("column", .int (c : Int)), ("line", .int (n : Int)), ("label", .str "BadText")]) : F__law_told [.str t.s] = .ok (.tuple [.str (Str.ofString "text"), .int n, .int c, .str (Str.ofString "token")]) := by
  simp [F__law_told, callS_eq, g__law_told, tryS, h]
  rfl
theorem toks_bad (xs1 : List Sg) (t w : Tx) (rest : List Nat) (h1 : t.l = flat xs1 ++ (w.l ++ 32 :: rest)) (hw : w ∈ runsT) (hx : ∀ x ∈ xs1, OKs x) (hl : xs1.length ≤ 15) (ht : t.l.length ≤ 1000) :
    F_tokens_of [.str t.s] = .er "BadText" [("reason", .str "token"), ("column", .int (((aft 1 1 (flat xs1)).2 + sh w : Nat) : Int)), ("line", .int ((aft 1 1 (flat xs1)).1 : Int)), ("label", .str "BadText")] := by
  obtain ⟨us, hus, hd⟩ := run_E w hw rest (aft 1 1 (flat xs1)).1 (aft 1 1 (flat xs1)).2
  have := Tks.segs xs1 1 1 hx hd
  rw [← h1, ← List.append_assoc] at this
  exact toks_er t (duel xs1 1 1 ++ us) _ _ this (by omega) (by rw [List.length_append, duel_len]; omega)
theorem law_k01_at (sc : D) (c : Int → Int) (hC : Scr sc c) (nl : Nat) (hln : lenD [sc] = some (.int (nl : Int))) : F_law [sc] = .ok (.bool true) := by
  have C := hC.cell
  obtain ⟨n, hn, hn1⟩ : ∃ n : Nat, 1 + c 0 / 8 % 13 = (n : Int) ∧ 1 ≤ n ∧ n ≤ 13 := ⟨(1 + c 0 / 8 % 13).toNat, by omega, by omega⟩
  simp (disch := trivial) [F_law, callS_eq, g_law, r_law_0_eq, t_law_0, C, modD_int, fdivW_int, hn]
  rw [r_law_1_eq]
  obtain ⟨t0, ht0, hl0, _, _⟩ := lname_E (c 2) n (by omega)
  simp (disch := trivial) [t_law_1, C, ht0]
  -- a sign exchanged
  have two : ∃ t : Tx, t.l.length ≤ 20 ∧ t_law_2 [some sc, some (.int n), some (.str t0.s), none, none, none, none, none, none, none, none, none, none, none, none, none, none, none, none] = .nx [some sc, some (.int n), some (.str t.s), none, none, none, none, none, none, none, none, none, none, none, none, none, none, none, none] := by
    by_cases h1 : c 1 % 2 = 1
    · have em : ∃ m : Nat, c 1 / 2 % 12 = (m : Int) ∧ m < 12 := ⟨(c 1 / 2 % 12).toNat, by omega, by omega⟩
      obtain ⟨m, hm, hm1⟩ := em
      have eh : (n : Int) / 2 = ((n / 2 : Nat) : Int) := by omega
      have ea : ((n / 2 : Nat) : Int) + 1 = ((n / 2 + 1 : Nat) : Int) := by omega
      have c1 := cut_to t0 (n / 2) (by omega)
      have c2 := cut_from t0 (n / 2 + 1) (by omega) (by omega)
      have xT : (.str (Str.ofString "AZ_- .0a9/+\n") : D) = .str (tx "AZ_- .0a9/+\n").s := by rw [tx_s]
      have hxl : (tx "AZ_- .0a9/+\n").l.length = 12 := by decide
      have ix := ixD_tx (tx "AZ_- .0a9/+\n") m (by omega) (by omega)
      rw [← chN_s (tx_lt (tx "AZ_- .0a9/+\n") m (by omega))] at ix
      have l1 : ∀ c, (chN c).l.length = 1 := fun c => by unfold chN; split <;> rfl
      generalize tx "AZ_- .0a9/+\n" = xt at *
      have lx := l1 (xt.l.getD m 0)
      generalize chN (xt.l.getD m 0) = x at *
      have lc1 : (t0.cut 0 (n / 2)).l.length ≤ 13 := by
        show ((t0.l.drop 0).take _).length ≤ 13
        rw [List.length_take, List.length_drop]; omega
      have lc2 : (t0.cut (n / 2 + 1) t0.l.length).l.length ≤ 13 := by
        show ((t0.l.drop _).take _).length ≤ 13
        rw [List.length_take, List.length_drop]; omega
      have lcs : (t0.cut 0 (n / 2)).l.length + (t0.cut (n / 2 + 1) t0.l.length).l.length ≤ 13 := by
        show ((t0.l.drop 0).take _).length + ((t0.l.drop _).take _).length ≤ 13
        rw [List.length_take, List.length_drop, List.length_take, List.length_drop]; omega
      generalize t0.cut 0 (n / 2) = u1 at *
      generalize t0.cut (n / 2 + 1) t0.l.length = u2 at *
      have a1 := addD_tx u1 x (by omega)
      have a2 := addD_tx (u1.app x) u2 (by rw [app_len]; omega)
      refine ⟨(u1.app x).app u2, by rw [app_len, app_len]; omega, ?_⟩
      rw [← ea] at c2
      rw [← eh] at c1 c2
      simp (disch := trivial) [t_law_2, C, modD_int, fdivW_int, h1, hm, xT, ix, c1, c2, a1, a2]
    · refine ⟨t0, by omega, ?_⟩
      simp (disch := trivial) [t_law_2, C, modD_int, h1]
  obtain ⟨t1, ht1, h2⟩ := two
  rw [r_law_2_eq, h2]
  simp
  rw [r_law_3_eq]
  generalize h3 : t_law_3 _ = o
  obtain ⟨a, b, rfl⟩ := part3 _ _ t1 ht1 h3
  rw [thn_nx, r_law_4_eq]
  have e1 : (.list [.str (Str.ofString "01"), .str (Str.ofString "00"), .str (Str.ofString "007"), .str (Str.ofString "1000001"), .str (Str.ofString "99999999999"), .str (Str.ofString "5a"), .str (Str.ofString "0x"), .str (Str.ofString "A"), .str (Str.ofString "@"), .str (Str.ofString "!"), .str (Str.ofString "\""), .str (Str.ofString "'"), .str (Str.ofString "."), .str (Str.ofString "5.5"), .str (Str.ofString "?"), .str (Str.ofString ">"), .str (Str.ofString "^"), .str (Str.ofString "/")] : D) = L [tx "01", tx "00", tx "007", tx "1000001", tx "99999999999", tx "5a", tx "0x", tx "A", tx "@", tx "!", tx "\"", tx "'", tx ".", tx "5.5", tx "?", tx ">", tx "^", tx "/"] := by
    show _ = PyData.list (Ls _)
    simp only [Ls, List.map_cons, List.map_nil, E_tx, tx_s]
  have e2 : (.list [.str (Str.ofString "_"), .str (Str.ofString "&"), .str (Str.ofString "|"), .str (Str.ofString "~"), .str (Str.ofString "$"), .str (Str.ofString "\\"), .str (Str.ofString "Z9"), .str (Str.ofString "["), .str (Str.ofString "]"), .str (Str.ofString "a_"), .str (Str.ofString "`"), .str (Str.ofString "aB")] : D) = L [tx "_", tx "&", tx "|", tx "~", tx "$", tx "\\", tx "Z9", tx "[", tx "]", tx "a_", tx "`", tx "aB"] := by
    show _ = PyData.list (Ls _)
    simp only [Ls, List.map_cons, List.map_nil, E_tx, tx_s]
  have ad : addD (L [tx "01", tx "00", tx "007", tx "1000001", tx "99999999999", tx "5a", tx "0x", tx "A", tx "@", tx "!", tx "\"", tx "'", tx ".", tx "5.5", tx "?", tx ">", tx "^", tx "/"]) (L [tx "_", tx "&", tx "|", tx "~", tx "$", tx "\\", tx "Z9", tx "[", tx "]", tx "a_", tx "`", tx "aB"]) = some (L runsT) := addD_L _ _ (by decide)
  simp only [t_law_4]
  simp
  rw [szL_ok (by simp [LIM])]
  simp
  rw [e1, r_law_5_eq]
  simp only [t_law_5]
  simp
  rw [szL_ok (by simp [LIM])]
  simp
  rw [e2, ad]
  clear e1 e2 ad
  simp
  rw [r_law_6_eq]
  simp only [t_law_6, sDispC]
  rw [show mk3C [(("5.5" : Str), 1), (("a_" : Str), 1), (("aB" : Str), 1)] = shD from rfl]
  have en : (.str (Str.ofString "") : D) = .str nilT.s := by rw [nil_s]
  have hlr : lenD [L runsT] = some (.int 30) := lenD_L _
  rw [thn_nx, r_law_7_eq]
  simp [t_law_7]
  rw [en, r_law_8_eq]
  simp [t_law_8]
  rw [en, r_law_9_eq]
  simp [t_law_9]
  rw [r_law_10_eq]
  simp [t_law_10]
  rw [r_law_11_eq]
  obtain ⟨m, hm, hm1, hm2⟩ : ∃ m : Nat, minD [.int 15, .int (if (nl : Int) - 3 > 1 then (nl : Int) - 3 else 1)] = some (.int (m : Int)) ∧ 1 ≤ m ∧ m ≤ 15 := by
    refine ⟨min 15 (max 1 (nl - 3)), ?_, by omega, by omega⟩
    rw [minD_2]
    congr 2
    split <;> split <;> omega
  have mx : maxD [.int 1, .int ((nl : Int) - 3)] = some (.int (if (nl : Int) - 3 > 1 then (nl : Int) - 3 else 1)) := maxD_2 _ _
  generalize (if (nl : Int) - 3 > 1 then (nl : Int) - 3 else 1) = mm at *
  have key := fun f1 f2 h o => part14 sc (some (.int (n : Int))) (some (.str t1.s)) a b c hC m f1 f2 hm2 h (o := o)
  simp only [PQ] at key
  generalize shD = sd at *
  generalize hrr : L runsT = rr at *
  simp [t_law_11, hln, mx, hm]
  rw [r_law_12_eq]
  obtain ⟨f1, hf1, hf11⟩ : ∃ f1 : Nat, c 0 % (m : Int) = (f1 : Int) ∧ f1 < m := ⟨(c 0 % (m : Int)).toNat, by have := Int.emod_nonneg (c 0) (show (m : Int) ≠ 0 by omega); omega, by have := Int.emod_nonneg (c 0) (show (m : Int) ≠ 0 by omega); have := Int.emod_lt_of_pos (c 0) (show (0 : Int) < m by omega); omega⟩
  simp (disch := trivial) [t_law_12, C, modD_int, hf1]
  rw [r_law_13_eq]
  obtain ⟨f2, hf2⟩ : ∃ f2 : Nat, c 1 % (2 * (m : Int)) = (f2 : Int) := ⟨(c 1 % (2 * (m : Int))).toNat, by have := Int.emod_nonneg (c 1) (show (2 * (m : Int)) ≠ 0 by omega); omega⟩
  have ml : mulD (.int 2) (.int (m : Int)) = some (.int (2 * (m : Int))) := mulD_int (.inl (by omega))
  simp (disch := trivial) [t_law_13, C, ml, modD_int, hf2]
  rw [r_law_14_eq]
  generalize h14 : t_law_14 _ = o
  obtain ⟨γ, rfl, xs, p, t, fo, b', c', d, e, f, g, rfl, hp, hxl, hok, htl, hfo⟩ := key f1 f2 hf11 o h14
  simp
  have k1 := told_ok p (toks_seg xs p hok hp (by omega)) (by rw [List.length_append, duel_len]; simp; omega)
  rw [List.length_append, duel_len, hxl] at k1
  simp at k1
  rw [r_law_15_eq]
  have z4 : szT [.str (Str.ofString "value"), .int ((m : Int) + 1), .int 0, .str (Str.ofString "")] = some (.tuple [.str (Str.ofString "value"), .int ((m : Int) + 1), .int 0, .str (Str.ofString "")]) := szT_ok (by simp [LIM])
  simp [t_law_15, k1, z4]
  rcases hfo with ⟨_, _, z⟩ | ⟨xs1, w, rest, h1, h2, h3, h4, h5⟩
  · omega
  · subst h5
    have k2 := told_er t (toks_bad xs1 t w rest h1 h2 h4 (by omega) (by omega))
    have p0 : ∀ x y : Int, ixD (.tuple [.int x, .int y]) (.int 0) = some (.int x) := fun _ _ => rfl
    have p1 : ∀ x y : Int, ixD (.tuple [.int x, .int y]) (.int 1) = some (.int y) := fun _ _ => rfl
    generalize (aft 1 1 (flat xs1)).1 = q1 at *
    generalize (aft 1 1 (flat xs1)).2 + sh w = q2 at *
    have z5 : szT [.str (Str.ofString "text"), .int (q1 : Int), .int (q2 : Int), .str (Str.ofString "token")] = some (.tuple [.str (Str.ofString "text"), .int (q1 : Int), .int (q2 : Int), .str (Str.ofString "token")]) := szT_ok (by simp [LIM])
    simp [r_law_16, t_law_16, k2, p0, p1, z5]
theorem law_plain_k01 : ∀ ns : List Int, ns.length ≤ 63 → F_law [rolD (ns.map PyData.int)] = .ok (.bool true) := fun ns _ => by
  obtain ⟨c, hc⟩ := scr_of ns
  exact law_k01_at _ c hc ns.length (by rw [lenD_rol, List.length_map])
end DL
set_option Elab.async false
set_option linter.all false
set_option maxRecDepth 100000
set_option maxHeartbeats 8000000

/-! The walk: each def computes what its function says (printed by gen.py). -/
namespace DL
open PySem PySem.Spec PyProof.Rows L2

def topS (i : Nat) : Stmt := PySem.Challenge.pw_trickbook_k01_first_faulty_token.main.body.getD i (.Pass ⟨0, 0, 0, 0⟩)
abbrev s_is_letter : Stmt := topS 6
abbrev s_is_any_letter : Stmt := topS 7
abbrev s_is_digit : Stmt := topS 8
abbrev s_is_name : Stmt := topS 9
abbrev s_run_of_digits : Stmt := topS 14
abbrev s_run_of_letters : Stmt := topS 15
abbrev s_number_of_digits : Stmt := topS 16
abbrev s_token_at : Stmt := topS 17
abbrev s_scan_line : Stmt := topS 18
abbrev s_scan : Stmt := topS 19
abbrev s_tokens_of : Stmt := topS 20
abbrev s__law_cell : Stmt := topS 22
abbrev s__law_draw : Stmt := topS 23
abbrev s__law_name : Stmt := topS 24
abbrev s__law_token : Stmt := topS 25
abbrev s__law_after : Stmt := topS 26
abbrev s__law_gap : Stmt := topS 27
abbrev s__law_told : Stmt := topS 28
abbrev s__law_good : Stmt := topS 29
abbrev s_law : Stmt := topS 30
theorem sc_is_letter : FnScope ["character"] ["character"] (defScope s_is_letter) := ⟨rfl, rfl, rfl, by decide +kernel, rfl, by decide +kernel, by decide +kernel⟩
theorem sc_is_any_letter : FnScope ["character"] ["character"] (defScope s_is_any_letter) := ⟨rfl, rfl, rfl, by decide +kernel, rfl, by decide +kernel, by decide +kernel⟩
theorem sc_is_digit : FnScope ["character"] ["character"] (defScope s_is_digit) := ⟨rfl, rfl, rfl, by decide +kernel, rfl, by decide +kernel, by decide +kernel⟩
theorem sc_is_name : FnScope ["text", "character"] ["text"] (defScope s_is_name) := ⟨rfl, rfl, rfl, by decide +kernel, rfl, by decide +kernel, by decide +kernel⟩
theorem sc_run_of_digits : FnScope ["line", "start", "end"] ["line", "start"] (defScope s_run_of_digits) := ⟨rfl, rfl, rfl, by decide +kernel, rfl, by decide +kernel, by decide +kernel⟩
theorem sc_run_of_letters : FnScope ["line", "start", "end"] ["line", "start"] (defScope s_run_of_letters) := ⟨rfl, rfl, rfl, by decide +kernel, rfl, by decide +kernel, by decide +kernel⟩
theorem sc_number_of_digits : FnScope ["digits", "value"] ["digits"] (defScope s_number_of_digits) := ⟨rfl, rfl, rfl, by decide +kernel, rfl, by decide +kernel, by decide +kernel⟩
theorem sc_token_at : FnScope ["line", "at", "character", "end", "value"] ["line", "at"] (defScope s_token_at) := ⟨rfl, rfl, rfl, by decide +kernel, rfl, by decide +kernel, by decide +kernel⟩
theorem sc_scan_line : FnScope ["line", "number", "found", "at", "token"] ["line", "number", "found"] (defScope s_scan_line) := ⟨rfl, rfl, rfl, by decide +kernel, rfl, by decide +kernel, by decide +kernel⟩
theorem sc_scan : FnScope ["text", "lines", "found", "number", "line", "column"] ["text"] (defScope s_scan) := ⟨rfl, rfl, rfl, by decide +kernel, rfl, by decide +kernel, by decide +kernel⟩
theorem sc_tokens_of : FnScope ["text", "found", "last"] ["text"] (defScope s_tokens_of) := ⟨rfl, rfl, rfl, by decide +kernel, rfl, by decide +kernel, by decide +kernel⟩
theorem sc__law_cell : FnScope ["script", "k"] ["script", "k"] (defScope s__law_cell) := ⟨rfl, rfl, rfl, by decide +kernel, rfl, by decide +kernel, by decide +kernel⟩
theorem sc__law_draw : FnScope ["cell", "limits", "row", "rest", "great", "k", "mixed"] ["cell", "limits"] (defScope s__law_draw) := ⟨rfl, rfl, rfl, by decide +kernel, rfl, by decide +kernel, by decide +kernel⟩
theorem sc__law_name : FnScope ["cell", "size", "text", "marks", "mark", "k"] ["cell", "size"] (defScope s__law_name) := ⟨rfl, rfl, rfl, by decide +kernel, rfl, by decide +kernel, by decide +kernel⟩
theorem sc__law_token : FnScope ["cell", "d", "small"] ["cell"] (defScope s__law_token) := ⟨rfl, rfl, rfl, by decide +kernel, rfl, by decide +kernel, by decide +kernel⟩
theorem sc__law_after : FnScope ["line", "column", "text", "k"] ["line", "column", "text"] (defScope s__law_after) := ⟨rfl, rfl, rfl, by decide +kernel, rfl, by decide +kernel, by decide +kernel⟩
theorem sc__law_gap : FnScope ["cell"] ["cell"] (defScope s__law_gap) := ⟨rfl, rfl, rfl, by decide +kernel, rfl, by decide +kernel, by decide +kernel⟩
theorem sc__law_told : FnScope ["text", "e"] ["text"] (defScope s__law_told) := ⟨rfl, rfl, rfl, by decide +kernel, rfl, by decide +kernel, by decide +kernel⟩
theorem sc__law_good : FnScope ["text", "small", "sign"] ["text"] (defScope s__law_good) := ⟨rfl, rfl, rfl, by decide +kernel, rfl, by decide +kernel, by decide +kernel⟩
theorem sc_law : FnScope ["script", "size", "name", "one", "runs", "shift", "text", "plain", "place", "found", "count", "first", "second", "k", "told", "token", "spelled", "gap", "wrong"] ["script"] (defScope s_law) := ⟨rfl, rfl, rfl, by decide +kernel, rfl, by decide +kernel, by decide +kernel⟩
abbrev i_BadText : Stmt := inClass (topS 2) 0
theorem si_BadText : SupScope ["self", "line", "column", "reason"] ["self", "line", "column", "reason"] "self" (defScope i_BadText) := ⟨rfl, rfl, rfl, by decide +kernel, rfl, by decide +kernel, by decide +kernel, free_of (by decide +kernel), rfl, rfl, rfl⟩
abbrev i_OutOfRange : Stmt := inClass (topS 3) 0
theorem si_OutOfRange : SupScope ["self", "value"] ["self", "value"] "self" (defScope i_OutOfRange) := ⟨rfl, rfl, rfl, by decide +kernel, rfl, by decide +kernel, by decide +kernel, free_of (by decide +kernel), rfl, rfl, rfl⟩
structure TX (K : PySem.W.Frag) (mg : Str → Option Value) (P : Program) (w : World) where
  a_is_letter : Addr
  fd_is_letter : FuncData
  F_is_letter : Fun K "is_letter" "is_letter" s_is_letter a_is_letter fd_is_letter
  m_is_letter : mg "is_letter" = some (.ref a_is_letter)
  b_is_letter : Binds K fd_is_letter ["character"] []
  a_is_any_letter : Addr
  fd_is_any_letter : FuncData
  F_is_any_letter : Fun K "is_any_letter" "is_any_letter" s_is_any_letter a_is_any_letter fd_is_any_letter
  m_is_any_letter : mg "is_any_letter" = some (.ref a_is_any_letter)
  b_is_any_letter : Binds K fd_is_any_letter ["character"] []
  a_is_digit : Addr
  fd_is_digit : FuncData
  F_is_digit : Fun K "is_digit" "is_digit" s_is_digit a_is_digit fd_is_digit
  m_is_digit : mg "is_digit" = some (.ref a_is_digit)
  b_is_digit : Binds K fd_is_digit ["character"] []
  a_is_name : Addr
  fd_is_name : FuncData
  F_is_name : Fun K "is_name" "is_name" s_is_name a_is_name fd_is_name
  m_is_name : mg "is_name" = some (.ref a_is_name)
  b_is_name : Binds K fd_is_name ["text"] []
  a_run_of_digits : Addr
  fd_run_of_digits : FuncData
  F_run_of_digits : Fun K "run_of_digits" "run_of_digits" s_run_of_digits a_run_of_digits fd_run_of_digits
  m_run_of_digits : mg "run_of_digits" = some (.ref a_run_of_digits)
  b_run_of_digits : Binds K fd_run_of_digits ["line", "start"] []
  a_run_of_letters : Addr
  fd_run_of_letters : FuncData
  F_run_of_letters : Fun K "run_of_letters" "run_of_letters" s_run_of_letters a_run_of_letters fd_run_of_letters
  m_run_of_letters : mg "run_of_letters" = some (.ref a_run_of_letters)
  b_run_of_letters : Binds K fd_run_of_letters ["line", "start"] []
  a_number_of_digits : Addr
  fd_number_of_digits : FuncData
  F_number_of_digits : Fun K "number_of_digits" "number_of_digits" s_number_of_digits a_number_of_digits fd_number_of_digits
  m_number_of_digits : mg "number_of_digits" = some (.ref a_number_of_digits)
  b_number_of_digits : Binds K fd_number_of_digits ["digits"] []
  a_token_at : Addr
  fd_token_at : FuncData
  F_token_at : Fun K "token_at" "token_at" s_token_at a_token_at fd_token_at
  m_token_at : mg "token_at" = some (.ref a_token_at)
  b_token_at : Binds K fd_token_at ["line", "at"] []
  a_scan_line : Addr
  fd_scan_line : FuncData
  F_scan_line : Fun K "scan_line" "scan_line" s_scan_line a_scan_line fd_scan_line
  m_scan_line : mg "scan_line" = some (.ref a_scan_line)
  b_scan_line : Binds K fd_scan_line ["line", "number", "found"] []
  a_scan : Addr
  fd_scan : FuncData
  F_scan : Fun K "scan" "scan" s_scan a_scan fd_scan
  m_scan : mg "scan" = some (.ref a_scan)
  b_scan : Binds K fd_scan ["text"] []
  a_tokens_of : Addr
  fd_tokens_of : FuncData
  F_tokens_of : Fun K "tokens_of" "tokens_of" s_tokens_of a_tokens_of fd_tokens_of
  m_tokens_of : mg "tokens_of" = some (.ref a_tokens_of)
  b_tokens_of : Binds K fd_tokens_of ["text"] []
  a__law_cell : Addr
  fd__law_cell : FuncData
  F__law_cell : Fun K "_law_cell" "_law_cell" s__law_cell a__law_cell fd__law_cell
  m__law_cell : mg "_law_cell" = some (.ref a__law_cell)
  b__law_cell : Binds K fd__law_cell ["script", "k"] []
  a__law_draw : Addr
  fd__law_draw : FuncData
  F__law_draw : Fun K "_law_draw" "_law_draw" s__law_draw a__law_draw fd__law_draw
  m__law_draw : mg "_law_draw" = some (.ref a__law_draw)
  b__law_draw : Binds K fd__law_draw ["cell", "limits"] []
  a__law_name : Addr
  fd__law_name : FuncData
  F__law_name : Fun K "_law_name" "_law_name" s__law_name a__law_name fd__law_name
  m__law_name : mg "_law_name" = some (.ref a__law_name)
  b__law_name : Binds K fd__law_name ["cell", "size"] []
  a__law_token : Addr
  fd__law_token : FuncData
  F__law_token : Fun K "_law_token" "_law_token" s__law_token a__law_token fd__law_token
  m__law_token : mg "_law_token" = some (.ref a__law_token)
  b__law_token : Binds K fd__law_token ["cell"] []
  a__law_after : Addr
  fd__law_after : FuncData
  F__law_after : Fun K "_law_after" "_law_after" s__law_after a__law_after fd__law_after
  m__law_after : mg "_law_after" = some (.ref a__law_after)
  b__law_after : Binds K fd__law_after ["line", "column", "text"] []
  a__law_gap : Addr
  fd__law_gap : FuncData
  F__law_gap : Fun K "_law_gap" "_law_gap" s__law_gap a__law_gap fd__law_gap
  m__law_gap : mg "_law_gap" = some (.ref a__law_gap)
  b__law_gap : Binds K fd__law_gap ["cell"] []
  a__law_told : Addr
  fd__law_told : FuncData
  F__law_told : Fun K "_law_told" "_law_told" s__law_told a__law_told fd__law_told
  m__law_told : mg "_law_told" = some (.ref a__law_told)
  b__law_told : Binds K fd__law_told ["text"] []
  a__law_good : Addr
  fd__law_good : FuncData
  F__law_good : Fun K "_law_good" "_law_good" s__law_good a__law_good fd__law_good
  m__law_good : mg "_law_good" = some (.ref a__law_good)
  b__law_good : Binds K fd__law_good ["text"] []
  a_law : Addr
  fd_law : FuncData
  F_law : Fun K "law" "law" s_law a_law fd_law
  m_law : mg "law" = some (.ref a_law)
  b_law : Binds K fd_law ["script"] []
  C_BadText : Addr
  I_BadText : Addr
  id_BadText : FuncData
  x_BadText : ErrTx K mg P "BadText" ["self", "line", "column", "reason"] ["line", "column", "reason"] C_BadText I_BadText id_BadText
  C_OutOfRange : Addr
  I_OutOfRange : Addr
  id_OutOfRange : FuncData
  x_OutOfRange : ErrTx K mg P "OutOfRange" ["self", "value"] ["value"] C_OutOfRange I_OutOfRange id_OutOfRange
  C_TrickError : Addr
  g_BadText : mg "BadText" = some (.ref C_BadText)
  e_BadText : ExmAll K mg "BadText" (.ref C_BadText) errs_k01
  xi_BadText : XiC K C_BadText
  gi_OutOfRange : mg "OutOfRange" = some (.ref C_OutOfRange)
  gi_TrickError : mg "TrickError" = some (.ref C_TrickError)
  ki_BadText_OutOfRange : PySem.W.kitOne K (.ref C_BadText) (.ref C_OutOfRange) = some false
  ki_BadText_TrickError : PySem.W.kitOne K (.ref C_BadText) (.ref C_TrickError) = some true
  kb_BadText_ValueError : PySem.W.kitOne K (.ref C_BadText) (.type "ValueError") = some true
  n_ValueError : mg "ValueError" = none
  n_abs : mg "abs" = none
  n_bool : mg "bool" = none
  n_int : mg "int" = none
  n_isinstance : mg "isinstance" = none
  n_len : mg "len" = none
  n_max : mg "max" = none
  n_min : mg "min" = none
  n_range : mg "range" = none
  n_str : mg "str" = none
  k_LONGEST : ∃ u, mg "LONGEST" = some u ∧ RelV (.int 12) u
  k_LONGEST_NUMBER : ∃ u, mg "LONGEST_NUMBER" = some u ∧ RelV (.int 7) u
  k_MOST_NUMBER : ∃ u, mg "MOST_NUMBER" = some u ∧ RelV (.int 1000000) u
  k_SIGNS : ∃ u, mg "SIGNS" = some u ∧ RelV (.str "{}();,:=+-*<") u
section
variable {P : Program} {w : World} {K : PySem.W.Frag} {mg : Str → Option Value} {base : Heap}
theorem ok_is_letter (T : TX K mg P w) : FnOk P w K mg base (L2.CX P w) 1 T.a_is_letter T.fd_is_letter ["character"] (spD K mg 1 F_is_letter) :=
  ok_of (owN := [0]) T.F_is_letter sc_is_letter fun cdv A outer s H B E hr => by
    have sc := sc_is_letter
    have tk := takes_of (X := cxOf (L2.CX P w) P w K mg base ["character"] "is_letter" (defScope s_is_letter) T.a_is_letter cdv A outer s H E) rfl rfl rfl rfl
    have po := passes_of (X := cxOf (L2.CX P w) P w K mg base ["character"] "is_letter" (defScope s_is_letter) T.a_is_letter cdv A outer s H E) rfl
    exact (s_one (s_ret (d_chain hr_leS hr_leS op_le_str op_le_str (w1 d_str) (f_var 0) (w1 d_str))))
theorem ok_is_any_letter (T : TX K mg P w) : FnOk P w K mg base (L2.CX P w) 2 T.a_is_any_letter T.fd_is_any_letter ["character"] (spD K mg 1 F_is_any_letter) :=
  ok_of (owN := [0]) T.F_is_any_letter sc_is_any_letter fun cdv A outer s H B E hr => by
    have sc := sc_is_any_letter
    have tk := takes_of (X := cxOf (L2.CX P w) P w K mg base ["character"] "is_any_letter" (defScope s_is_any_letter) T.a_is_any_letter cdv A outer s H E) rfl rfl rfl rfl
    have po := passes_of (X := cxOf (L2.CX P w) P w K mg base ["character"] "is_any_letter" (defScope s_is_any_letter) T.a_is_any_letter cdv A outer s H E) rfl
    exact (s_one (s_ret (d_or (w1 (d_call (ok_is_letter T) (hr.mono (by decide)) T.m_is_letter T.F_is_letter.kp T.b_is_letter tk (a_cons (d_var 0) a_nil))) (d_one (d_chain hr_leS hr_leS op_le_str op_le_str (w1 d_str) (f_var 0) (w1 d_str))))))
theorem ok_is_digit (T : TX K mg P w) : FnOk P w K mg base (L2.CX P w) 1 T.a_is_digit T.fd_is_digit ["character"] (spD K mg 1 F_is_digit) :=
  ok_of (owN := [0]) T.F_is_digit sc_is_digit fun cdv A outer s H B E hr => by
    have sc := sc_is_digit
    have tk := takes_of (X := cxOf (L2.CX P w) P w K mg base ["character"] "is_digit" (defScope s_is_digit) T.a_is_digit cdv A outer s H E) rfl rfl rfl rfl
    have po := passes_of (X := cxOf (L2.CX P w) P w K mg base ["character"] "is_digit" (defScope s_is_digit) T.a_is_digit cdv A outer s H E) rfl
    exact (s_one (s_ret (d_chain hr_leS hr_leS op_le_str op_le_str (w1 d_str) (f_var 0) (w1 d_str))))
theorem ok_is_name (T : TX K mg P w) : FnOk P w K mg base (L2.CX P w) 2 T.a_is_name T.fd_is_name ["text"] (spD K mg 1 F_is_name) :=
  ok_of (owN := [0, 0]) T.F_is_name sc_is_name fun cdv A outer s H B E hr => by
    have sc := sc_is_name
    have tk := takes_of (X := cxOf (L2.CX P w) P w K mg base ["text", "character"] "is_name" (defScope s_is_name) T.a_is_name cdv A outer s H E) rfl rfl rfl rfl
    have po := passes_of (X := cxOf (L2.CX P w) P w K mg base ["text", "character"] "is_name" (defScope s_is_name) T.a_is_name cdv A outer s H E) rfl
    exact (s_cons (s_if (PW.pt (t_or (t_lt (w1 (d_len T.n_len (a_cons (f_var 0) a_nil))) (w1 d_int)) (t_or (t_gt (w1 (d_len T.n_len (a_cons (f_var 0) a_nil))) (w1 (d_gint T.k_LONGEST))) (t_or1 (t_not (t_truth (w1 (d_call (ok_is_letter T) (hr.mono (by decide)) T.m_is_letter T.F_is_letter.kp T.b_is_letter tk (a_cons (d_ix (f_var 0) (w1 d_int)) a_nil))))))))) (s_one (s_ret d_bl)) s_nil) (s_cons (s_for (vs := [1]) po (i_str (f_var 0)) (g_name 1 sc.nd) (s_one (s_if (PW.pt (t_and (t_not (t_truth (w1 (d_call (ok_is_letter T) (hr.mono (by decide)) T.m_is_letter T.F_is_letter.kp T.b_is_letter tk (a_cons (d_var 1) a_nil))))) (t_and1 (t_not (t_truth (w1 (d_call (ok_is_digit T) (hr.mono (by decide)) T.m_is_digit T.F_is_digit.kp T.b_is_digit tk (a_cons (d_var 1) a_nil)))))))) (s_one (s_ret d_bl)) s_nil))) (s_one (s_ret d_bl))))
theorem ok_run_of_digits (T : TX K mg P w) : FnOk P w K mg base (L2.CX P w) 2 T.a_run_of_digits T.fd_run_of_digits ["line", "start"] (spD K mg 2 F_run_of_digits) :=
  ok_of (owN := [0, 0, 0]) T.F_run_of_digits sc_run_of_digits fun cdv A outer s H B E hr => by
    have sc := sc_run_of_digits
    have tk := takes_of (X := cxOf (L2.CX P w) P w K mg base ["line", "start", "end"] "run_of_digits" (defScope s_run_of_digits) T.a_run_of_digits cdv A outer s H E) rfl rfl rfl rfl
    have po := passes_of (X := cxOf (L2.CX P w) P w K mg base ["line", "start", "end"] "run_of_digits" (defScope s_run_of_digits) T.a_run_of_digits cdv A outer s H E) rfl
    exact (s_cons (s_set (ow' := [0, 0, 0]) 2 (d_var 1) sc.nd) (s_cons (s_while po (PW.pt (t_and (t_lt (f_var 2) (w1 (d_len T.n_len (a_cons (f_var 0) a_nil)))) (t_and1 (t_truth (w1 (d_call (ok_is_digit T) (hr.mono (by decide)) T.m_is_digit T.F_is_digit.kp T.b_is_digit tk (a_cons (d_ix (f_var 0) (f_var 2)) a_nil))))))) (s_one (s_aug (ow' := [0, 0, 0]) 2 hr_addA iop_addA (w1 d_int) sc.nd))) (s_one (s_ret (d_var 2)))))
theorem ok_run_of_letters (T : TX K mg P w) : FnOk P w K mg base (L2.CX P w) 2 T.a_run_of_letters T.fd_run_of_letters ["line", "start"] (spD K mg 2 F_run_of_letters) :=
  ok_of (owN := [0, 0, 0]) T.F_run_of_letters sc_run_of_letters fun cdv A outer s H B E hr => by
    have sc := sc_run_of_letters
    have tk := takes_of (X := cxOf (L2.CX P w) P w K mg base ["line", "start", "end"] "run_of_letters" (defScope s_run_of_letters) T.a_run_of_letters cdv A outer s H E) rfl rfl rfl rfl
    have po := passes_of (X := cxOf (L2.CX P w) P w K mg base ["line", "start", "end"] "run_of_letters" (defScope s_run_of_letters) T.a_run_of_letters cdv A outer s H E) rfl
    exact (s_cons (s_set (ow' := [0, 0, 0]) 2 (d_var 1) sc.nd) (s_cons (s_while po (PW.pt (t_and (t_lt (f_var 2) (w1 (d_len T.n_len (a_cons (f_var 0) a_nil)))) (t_and1 (PW.pt (t_or (t_truth (w1 (d_call (ok_is_letter T) (hr.mono (by decide)) T.m_is_letter T.F_is_letter.kp T.b_is_letter tk (a_cons (d_ix (f_var 0) (f_var 2)) a_nil)))) (t_or1 (t_truth (w1 (d_call (ok_is_digit T) (hr.mono (by decide)) T.m_is_digit T.F_is_digit.kp T.b_is_digit tk (a_cons (d_ix (f_var 0) (f_var 2)) a_nil)))))))))) (s_one (s_aug (ow' := [0, 0, 0]) 2 hr_addA iop_addA (w1 d_int) sc.nd))) (s_one (s_ret (d_var 2)))))
theorem ok_number_of_digits (T : TX K mg P w) : FnOk P w K mg base (L2.CX P w) 1 T.a_number_of_digits T.fd_number_of_digits ["digits"] (spD K mg 1 F_number_of_digits) :=
  ok_of (owN := [0, 0]) T.F_number_of_digits sc_number_of_digits fun cdv A outer s H B E hr => by
    have sc := sc_number_of_digits
    have tk := takes_of (X := cxOf (L2.CX P w) P w K mg base ["digits", "value"] "number_of_digits" (defScope s_number_of_digits) T.a_number_of_digits cdv A outer s H E) rfl rfl rfl rfl
    have po := passes_of (X := cxOf (L2.CX P w) P w K mg base ["digits", "value"] "number_of_digits" (defScope s_number_of_digits) T.a_number_of_digits cdv A outer s H E) rfl
    exact (s_cons (s_if (PW.pt (t_or (t_gt (w1 (d_len T.n_len (a_cons (f_var 0) a_nil))) (w1 (d_gint T.k_LONGEST_NUMBER))) (t_or1 (PW.pt (t_and (t_gt (w1 (d_len T.n_len (a_cons (f_var 0) a_nil))) (w1 d_int)) (t_and1 (t_eq hr (w1 (d_ix (f_var 0) (w1 d_int))) (w1 d_str)))))))) (s_one (s_ret d_non)) s_nil) (s_cons (s_set (ow' := [0, 0]) 1 (d_intT T.n_int (a_cons (f_var 0) a_nil)) sc.nd) (s_cons (s_if (t_gt (f_var 1) (w1 (d_gint T.k_MOST_NUMBER))) (s_one (s_ret d_non)) s_nil) (s_one (s_ret (d_var 1))))))
theorem ok_token_at (T : TX K mg P w) : FnOk P w K mg base (L2.CX P w) 3 T.a_token_at T.fd_token_at ["line", "at"] (spD K mg 2 F_token_at) :=
  ok_of (owN := [0, 0, 0, 0, 0]) T.F_token_at sc_token_at fun cdv A outer s H B E hr => by
    have sc := sc_token_at
    have tk := takes_of (X := cxOf (L2.CX P w) P w K mg base ["line", "at", "character", "end", "value"] "token_at" (defScope s_token_at) T.a_token_at cdv A outer s H E) rfl rfl rfl rfl
    have po := passes_of (X := cxOf (L2.CX P w) P w K mg base ["line", "at", "character", "end", "value"] "token_at" (defScope s_token_at) T.a_token_at cdv A outer s H E) rfl
    exact (s_cons (s_set (ow' := [0, 0, 0, 0, 0]) 2 (d_ix (f_var 0) (f_var 1)) sc.nd) (s_cons (s_if (t_truth (w1 (d_call (ok_is_digit T) (hr.mono (by decide)) T.m_is_digit T.F_is_digit.kp T.b_is_digit tk (a_cons (d_var 2) a_nil)))) (s_cons (s_set (ow' := [0, 0, 0, 0, 0]) 3 (d_call (ok_run_of_digits T) (hr.mono (by decide)) T.m_run_of_digits T.F_run_of_digits.kp T.b_run_of_digits tk (a_cons (d_var 0) (a_cons (d_var 1) a_nil))) sc.nd) (s_cons (s_set (ow' := [0, 0, 0, 0, 0]) 4 (d_call (ok_number_of_digits T) (hr.mono (by decide)) T.m_number_of_digits T.F_number_of_digits.kp T.b_number_of_digits tk (a_cons (d_cut (f_var 0) (o_some (f_var 1)) (o_some (f_var 3))) a_nil)) sc.nd) (s_cons (s_if (PW.pt (t_or (t_isN (f_var 4)) (t_or1 (PW.pt (t_and (t_lt (f_var 3) (w1 (d_len T.n_len (a_cons (f_var 0) a_nil)))) (t_and1 (t_truth (w1 (d_call (ok_is_any_letter T) (hr.mono (by decide)) T.m_is_any_letter T.F_is_any_letter.kp T.b_is_any_letter tk (a_cons (d_ix (f_var 0) (f_var 3)) a_nil)))))))))) (s_one (s_ret d_non)) s_nil) (s_one (s_ret (d_tup (a_cons d_str (a_cons (d_var 4) (a_cons (d_var 3) a_nil))))))))) s_nil) (s_cons (s_if (t_truth (w1 (d_call (ok_is_letter T) (hr.mono (by decide)) T.m_is_letter T.F_is_letter.kp T.b_is_letter tk (a_cons (d_var 2) a_nil)))) (s_cons (s_set (ow' := [0, 0, 0, 0, 0]) 3 (d_call (ok_run_of_letters T) (hr.mono (by decide)) T.m_run_of_letters T.F_run_of_letters.kp T.b_run_of_letters tk (a_cons (d_var 0) (a_cons (d_var 1) a_nil))) sc.nd) (s_one (s_ret (d_tup (a_cons d_str (a_cons (d_cut (f_var 0) (o_some (f_var 1)) (o_some (f_var 3))) (a_cons (d_var 3) a_nil))))))) s_nil) (s_cons (s_if (t_inS (f_var 2) (w1 (d_gstr T.k_SIGNS))) (s_one (s_ret (d_tup (a_cons d_str (a_cons (d_var 2) (a_cons (d_add (f_var 1) (w1 d_int)) a_nil)))))) s_nil) (s_one (s_ret d_non))))))
theorem okW_scan_line (T : TX K mg P w) : FnOk P w K mg base (L2.CX P w) 4 T.a_scan_line T.fd_scan_line ["line", "number", "found"] (spW K mg 3 FW_scan_line) :=
  ok_ofW T.F_scan_line sc_scan_line rfl fun cdv A outer s H B E q hr => by
    have sc := sc_scan_line
    have tk := takes_of (X := cxOf (L2.CX P w) P w K mg base ["line", "number", "found", "at", "token"] "scan_line" (defScope s_scan_line) T.a_scan_line cdv A outer s H E) rfl rfl rfl rfl
    have po := passes_of (X := cxOf (L2.CX P w) P w K mg base ["line", "number", "found", "at", "token"] "scan_line" (defScope s_scan_line) T.a_scan_line cdv A outer s H E) rfl
    exact (l_cons (l_of (owN := []) (owL := []) (by intro _ _; exact (s_set (ow' := []) 3 d_int sc.nd)) (fun _ => rfl) (fun _ => rfl)) (l_cons (l_while po (by intro _ _; exact (t_lt (f_var 3) (w1 (d_len T.n_len (a_cons (f_var 0) a_nil))))) (l_cons (l_of (owN := []) (owL := []) (by intro _ _; exact (s_if (t_eq hr (w1 (d_ix (f_var 0) (f_var 3))) (w1 d_str)) (s_one (s_ret d_int)) s_nil)) (fun _ => rfl) (fun _ => rfl)) (l_one (l_if (by intro _ _; exact (t_eq hr (w1 (d_ix (f_var 0) (f_var 3))) (w1 d_str))) (l_one (l_of (owN := []) (owL := []) (by intro _ _; exact (s_aug (ow' := []) 3 hr_addA iop_addA (w1 d_int) sc.nd)) (fun _ => rfl) (fun _ => rfl))) (l_cons (l_of (owN := []) (owL := []) (by intro _ _; exact (s_set (ow' := []) 4 (d_call (ok_token_at T) (hr.mono (by decide)) T.m_token_at T.F_token_at.kp T.b_token_at tk (a_cons (d_var 0) (a_cons (d_var 3) a_nil))) sc.nd)) (fun _ => rfl) (fun _ => rfl)) (l_cons (l_of (owN := []) (owL := []) (by intro _ _; exact (s_if (t_isN (f_var 4)) (s_one (s_ret (d_add (f_var 3) (w1 d_int)))) s_nil)) (fun _ => rfl) (fun _ => rfl)) (l_cons (l_append (by intro _ _; exact (d_tup (a_cons (d_ix (f_var 4) (w1 d_int)) (a_cons (d_ix (f_var 4) (w1 d_int)) (a_cons (d_var 1) (a_cons (d_add (f_var 3) (w1 d_int)) a_nil))))))) (l_one (l_of (owN := []) (owL := []) (by intro _ _; exact (s_set (ow' := []) 3 (d_ix (f_var 4) (w1 d_int)) sc.nd)) (fun _ => rfl) (fun _ => rfl)))))))))) (l_one (l_of (owN := []) (owL := []) (by intro _ _; exact (s_ret d_int)) (fun _ => rfl) (fun _ => rfl)))))
theorem ok_scan (T : TX K mg P w) : FnOk P w K mg base (L2.CX P w) 5 T.a_scan T.fd_scan ["text"] (spD K mg 1 F_scan) :=
  ok_of (owN := [0, 0, 0, 0, 0, 0]) T.F_scan sc_scan fun cdv A outer s H B E hr => by
    have sc := sc_scan
    have tk := takes_of (X := cxOf (L2.CX P w) P w K mg base ["text", "lines", "found", "number", "line", "column"] "scan" (defScope s_scan) T.a_scan cdv A outer s H E) rfl rfl rfl rfl
    have po := passes_of (X := cxOf (L2.CX P w) P w K mg base ["text", "lines", "found", "number", "line", "column"] "scan" (defScope s_scan) T.a_scan cdv A outer s H E) rfl
    exact (s_cons (s_set (ow' := [0, 0, 0, 0, 0, 0]) 1 (e_of_n (n_split (f_var 0) (w1 d_str))) sc.nd) (s_cons (s_new (ow' := [0, 0, 1, 0, 0, 0]) 2 (n_lst a_nil) sc.nd) (s_cons (s_set (ow' := [0, 0, 1, 0, 0, 0]) 3 d_int sc.nd) (s_cons (s_for (vs := [4]) po (i_list (d_var 1)) (g_name 4 sc.nd) (s_cons (s_aug (ow' := [0, 0, 1, 0, 0, 0]) 3 hr_addA iop_addA (w1 d_int) sc.nd) (s_cons (s_setW (ow' := [0, 0, 1, 0, 0, 0]) 5 2 (okW_scan_line T) (hr.mono (by decide)) T.m_scan_line T.F_scan_line.kp T.b_scan_line tk (aw_cons 2 (d_var 4) (aw_cons 2 (d_var 3) (aw_nil 2))) sc.nd) (s_one (s_if (t_gt (f_var 5) (w1 d_int)) (s_cons (s_append 2 (d_tup (a_cons d_str (a_cons d_str (a_cons (d_var 3) (a_cons (d_var 5) a_nil)))))) (s_one (s_frz 2 (s_ret (d_var 2))))) s_nil))))) (s_cons (s_append 2 (d_tup (a_cons d_str (a_cons d_str (a_cons (d_var 3) (a_cons (d_add (w1 (d_len T.n_len (a_cons (w1 (d_ix (f_var 1) (w1 (d_neg (w1 d_int))))) a_nil))) (w1 d_int)) a_nil)))))) (s_one (s_frz 2 (s_ret (d_var 2)))))))))
theorem ok_tokens_of (T : TX K mg P w) : FnOk P w K mg base (L2.CX P w) 6 T.a_tokens_of T.fd_tokens_of ["text"] (spD K mg 1 F_tokens_of) :=
  ok_of (owN := [0, 0, 0]) T.F_tokens_of sc_tokens_of fun cdv A outer s H B E hr => by
    have sc := sc_tokens_of
    have tk := takes_of (X := cxOf (L2.CX P w) P w K mg base ["text", "found", "last"] "tokens_of" (defScope s_tokens_of) T.a_tokens_of cdv A outer s H E) rfl rfl rfl rfl
    have po := passes_of (X := cxOf (L2.CX P w) P w K mg base ["text", "found", "last"] "tokens_of" (defScope s_tokens_of) T.a_tokens_of cdv A outer s H E) rfl
    exact (s_cons (s_set (ow' := [0, 0, 0]) 1 (d_call (ok_scan T) (hr.mono (by decide)) T.m_scan T.F_scan.kp T.b_scan tk (a_cons (d_var 0) a_nil)) sc.nd) (s_cons (s_set (ow' := [0, 0, 0]) 2 (d_ix (f_var 1) (w1 (d_neg (w1 d_int)))) sc.nd) (s_cons (s_if (t_eq hr (w1 (d_ix (f_var 2) (w1 d_int))) (w1 d_str)) (s_one (s_raise (CX := L2.CX P w) T.x_BadText.oex T.x_BadText.iC T.x_BadText.tI (T.x_BadText.ok _ _) (hr.mono (by decide)) T.x_BadText.b tk T.x_BadText.m (a_cons (d_ix (f_var 2) (w1 d_int)) (a_cons (d_ix (f_var 2) (w1 d_int)) (a_cons d_str a_nil))))) s_nil) (s_one (s_ret (d_var 1))))))
theorem ok__law_cell (T : TX K mg P w) : FnOk P w K mg base (L2.CX P w) 1 T.a__law_cell T.fd__law_cell ["script", "k"] (spD K mg 2 F__law_cell) :=
  ok_of (owN := [0, 0]) T.F__law_cell sc__law_cell fun cdv A outer s H B E hr => by
    have sc := sc__law_cell
    have tk := takes_of (X := cxOf (L2.CX P w) P w K mg base ["script", "k"] "_law_cell" (defScope s__law_cell) T.a__law_cell cdv A outer s H E) rfl rfl rfl rfl
    have po := passes_of (X := cxOf (L2.CX P w) P w K mg base ["script", "k"] "_law_cell" (defScope s__law_cell) T.a__law_cell cdv A outer s H E) rfl
    exact (s_cons (s_if (t_lt (f_var 1) (w1 (d_len T.n_len (a_cons (f_var 0) a_nil)))) (s_one (s_ret (d_ix (f_var 0) (f_var 1)))) s_nil) (s_one (s_ret d_int)))
theorem ok__law_draw (T : TX K mg P w) : FnOk P w K mg base (L2.CX P w) 1 T.a__law_draw T.fd__law_draw ["cell", "limits"] (spD K mg 2 F__law_draw) :=
  ok_of (owN := [0, 0, 0, 0, 0, 0, 0]) T.F__law_draw sc__law_draw fun cdv A outer s H B E hr => by
    have sc := sc__law_draw
    have tk := takes_of (X := cxOf (L2.CX P w) P w K mg base ["cell", "limits", "row", "rest", "great", "k", "mixed"] "_law_draw" (defScope s__law_draw) T.a__law_draw cdv A outer s H E) rfl rfl rfl rfl
    have po := passes_of (X := cxOf (L2.CX P w) P w K mg base ["cell", "limits", "row", "rest", "great", "k", "mixed"] "_law_draw" (defScope s__law_draw) T.a__law_draw cdv A outer s H E) rfl
    exact (s_cons (s_new (ow' := [0, 0, 1, 0, 0, 0, 0]) 2 (n_lst a_nil) sc.nd) (s_cons (s_set (ow' := [0, 0, 1, 0, 0, 0, 0]) 3 (d_abs T.n_abs (a_cons (f_var 0) a_nil)) sc.nd) (s_cons (s_set (ow' := [0, 0, 1, 0, 0, 0, 0]) 4 (d_ge (f_var 3) (w1 d_int)) sc.nd) (s_cons (s_for (vs := [5]) po (i_rg1 (a_cons (w1 (d_len T.n_len (a_cons (f_var 1) a_nil))) a_nil) (hm := T.n_range)) (g_name 5 sc.nd) (s_one (s_if (PW.pt (t_and (t_truth (f_var 4)) (t_and1 (t_ge (f_var 3) (w1 (d_ix (f_var 1) (f_var 5))))))) (s_cons (s_append 2 (d_mod (w1 (d_intc T.n_int (a_cons (f_var 3) a_nil))) (w1 (d_ix (f_var 1) (f_var 5))))) (s_one (s_set (ow' := [0, 0, 1, 0, 0, 0, 0]) 3 (d_fdiv (f_var 3) (w1 (d_ix (f_var 1) (f_var 5)))) sc.nd))) (s_cons (s_set (ow' := [0, 0, 1, 0, 0, 0, 0]) 6 (d_mod (w1 (d_intc T.n_int (a_cons (w1 (d_add (w1 (d_mul (w1 (d_abs T.n_abs (a_cons (f_var 0) a_nil))) (w1 d_int))) (w1 (d_mul (w1 (d_add (f_var 5) (w1 d_int))) (w1 d_int))))) a_nil))) (w1 d_int)) sc.nd) (s_cons (s_set (ow' := [0, 0, 1, 0, 0, 0, 0]) 6 (d_mod (w1 (d_intc T.n_int (a_cons (w1 (d_add (w1 (d_mul (f_var 6) (w1 d_int))) (w1 (d_mul (w1 (d_add (f_var 5) (w1 d_int))) (w1 d_int))))) a_nil))) (w1 d_int)) sc.nd) (s_one (s_append 2 (d_mod (w1 (d_intc T.n_int (a_cons (f_var 6) a_nil))) (w1 (d_ix (f_var 1) (f_var 5))))))))))) (s_one (s_frz 2 (s_ret (d_var 2))))))))
theorem ok__law_name (T : TX K mg P w) : FnOk P w K mg base (L2.CX P w) 2 T.a__law_name T.fd__law_name ["cell", "size"] (spD K mg 2 F__law_name) :=
  ok_of (owN := [0, 0, 0, 0, 0, 0]) T.F__law_name sc__law_name fun cdv A outer s H B E hr => by
    have sc := sc__law_name
    have tk := takes_of (X := cxOf (L2.CX P w) P w K mg base ["cell", "size", "text", "marks", "mark", "k"] "_law_name" (defScope s__law_name) T.a__law_name cdv A outer s H E) rfl rfl rfl rfl
    have po := passes_of (X := cxOf (L2.CX P w) P w K mg base ["cell", "size", "text", "marks", "mark", "k"] "_law_name" (defScope s__law_name) T.a__law_name cdv A outer s H E) rfl
    exact (s_cons (s_set (ow' := [0, 0, 0, 0, 0, 0]) 2 d_str sc.nd) (s_cons (s_set (ow' := [0, 0, 0, 0, 0, 0]) 3 (d_call (ok__law_draw T) (hr.mono (by decide)) T.m__law_draw T.F__law_draw.kp T.b__law_draw tk (a_cons (d_var 0) (a_cons (d_add (w1 (e_of_n (n_lst (a_cons d_int a_nil)))) (w1 (e_of_n (n_lc [("k", 5)] sc.nd (i_rg1 (a_cons (w1 (d_sub (f_var 1) (w1 d_int))) a_nil) (hm := T.n_range)) (blkOk_by (N := ["cell", "size", "text", "marks", "mark", "k"]) (sc := defScope s__law_name) (by decide +kernel)) (fun _ _ _ _ _ => (g_name 5 sc.nd)) (fun _ _ _ _ _ => ts_nil) (fun _ _ _ _ _ => d_int))))) a_nil))) sc.nd) (s_one (s_ret (d_join (w1 d_str) (w1 (e_of_n (n_lc [("mark", 4)] sc.nd (i_list (d_var 3)) (blkOk_by (N := ["cell", "size", "text", "marks", "mark", "k"]) (sc := defScope s__law_name) (by decide +kernel)) (fun _ _ _ _ _ => (g_name 4 sc.nd)) (fun _ _ _ _ _ => ts_nil) (fun _ _ _ _ _ => (d_ix (f_var 2) (f_var 4)))))))))))
theorem ok__law_token (T : TX K mg P w) : FnOk P w K mg base (L2.CX P w) 2 T.a__law_token T.fd__law_token ["cell"] (spD K mg 1 F__law_token) :=
  ok_of (owN := [0, 0, 0]) T.F__law_token sc__law_token fun cdv A outer s H B E hr => by
    have sc := sc__law_token
    have tk := takes_of (X := cxOf (L2.CX P w) P w K mg base ["cell", "d", "small"] "_law_token" (defScope s__law_token) T.a__law_token cdv A outer s H E) rfl rfl rfl rfl
    have po := passes_of (X := cxOf (L2.CX P w) P w K mg base ["cell", "d", "small"] "_law_token" (defScope s__law_token) T.a__law_token cdv A outer s H E) rfl
    exact (s_cons (s_set (ow' := [0, 0, 0]) 1 (d_call (ok__law_draw T) (hr.mono (by decide)) T.m__law_draw T.F__law_draw.kp T.b__law_draw tk (a_cons (d_var 0) (a_cons (e_of_n (n_lst (a_cons d_int (a_cons d_int (a_cons d_int (a_cons d_int (a_cons d_int (a_cons d_int (a_cons d_int a_nil))))))))) a_nil))) sc.nd) (s_cons (s_set (ow' := [0, 0, 0]) 2 d_str sc.nd) (s_cons (s_if (t_eq hr (w1 (d_ix (f_var 1) (w1 d_int))) (w1 d_int)) (s_one (s_ret (d_tup (a_cons d_str (a_cons (d_cut (w1 (d_add (w1 (d_add (w1 (d_ix (f_var 2) (w1 (d_ix (f_var 1) (w1 d_int))))) (w1 (d_ix (f_var 2) (w1 (d_ix (f_var 1) (w1 d_int))))))) (w1 (d_ix (f_var 2) (w1 (d_ix (f_var 1) (w1 d_int))))))) o_none (o_some (w1 (d_add (w1 d_int) (w1 (d_mod (w1 (d_intc T.n_int (a_cons (w1 (d_ix (f_var 1) (w1 d_int))) a_nil))) (w1 d_int))))))) a_nil))))) s_nil) (s_cons (s_if (t_eq hr (w1 (d_ix (f_var 1) (w1 d_int))) (w1 d_int)) (s_one (s_ret (d_tup (a_cons d_str (a_cons (d_ix (w1 (e_of_n (n_lst (a_cons (d_ix (f_var 1) (w1 d_int)) (a_cons d_int (a_cons (d_mod (w1 (d_intc T.n_int (a_cons (w1 (d_ix (f_var 1) (w1 d_int))) a_nil))) (w1 d_int)) (a_cons d_int (a_cons (d_mod (w1 (d_intc T.n_int (a_cons (w1 (d_ix (f_var 1) (w1 d_int))) a_nil))) (w1 d_int)) a_nil)))))))) (w1 (d_ix (f_var 1) (w1 d_int)))) a_nil))))) s_nil) (s_one (s_ret (d_tup (a_cons d_str (a_cons (d_ix (w1 d_str) (w1 (d_ix (f_var 1) (w1 d_int)))) a_nil)))))))))
theorem ok__law_after (T : TX K mg P w) : FnOk P w K mg base (L2.CX P w) 1 T.a__law_after T.fd__law_after ["line", "column", "text"] (spD K mg 3 F__law_after) :=
  ok_of (owN := [0, 0, 0, 0]) T.F__law_after sc__law_after fun cdv A outer s H B E hr => by
    have sc := sc__law_after
    have tk := takes_of (X := cxOf (L2.CX P w) P w K mg base ["line", "column", "text", "k"] "_law_after" (defScope s__law_after) T.a__law_after cdv A outer s H E) rfl rfl rfl rfl
    have po := passes_of (X := cxOf (L2.CX P w) P w K mg base ["line", "column", "text", "k"] "_law_after" (defScope s__law_after) T.a__law_after cdv A outer s H E) rfl
    exact (s_cons (s_for (vs := [3]) po (i_rg1 (a_cons (w1 (d_len T.n_len (a_cons (f_var 2) a_nil))) a_nil) (hm := T.n_range)) (g_name 3 sc.nd) (s_one (s_if (t_eq hr (w1 (d_ix (f_var 2) (f_var 3))) (w1 d_str)) (s_cons (s_set (ow' := [0, 0, 0, 0]) 0 (d_add (f_var 0) (w1 d_int)) sc.nd) (s_one (s_set (ow' := [0, 0, 0, 0]) 1 d_int sc.nd))) (s_one (s_set (ow' := [0, 0, 0, 0]) 1 (d_add (f_var 1) (w1 d_int)) sc.nd))))) (s_one (s_ret (d_tup (a_cons (d_var 0) (a_cons (d_var 1) a_nil))))))
theorem ok__law_gap (T : TX K mg P w) : FnOk P w K mg base (L2.CX P w) 1 T.a__law_gap T.fd__law_gap ["cell"] (spD K mg 1 F__law_gap) :=
  ok_of (owN := [0]) T.F__law_gap sc__law_gap fun cdv A outer s H B E hr => by
    have sc := sc__law_gap
    have tk := takes_of (X := cxOf (L2.CX P w) P w K mg base ["cell"] "_law_gap" (defScope s__law_gap) T.a__law_gap cdv A outer s H E) rfl rfl rfl rfl
    have po := passes_of (X := cxOf (L2.CX P w) P w K mg base ["cell"] "_law_gap" (defScope s__law_gap) T.a__law_gap cdv A outer s H E) rfl
    exact (s_one (s_ret (d_ix (w1 (e_of_n (n_lst (a_cons d_str (a_cons d_str (a_cons d_str (a_cons d_str (a_cons d_str (a_cons d_str a_nil))))))))) (w1 (d_mod (w1 (d_intc T.n_int (a_cons (f_var 0) a_nil))) (w1 d_int))))))
theorem ok__law_told (T : TX K mg P w) : FnOk P w K mg base (L2.CX P w) 7 T.a__law_told T.fd__law_told ["text"] (spD K mg 1 F__law_told) :=
  ok_of (owN := [0, 0]) T.F__law_told sc__law_told fun cdv A outer s H B E hr => by
    have sc := sc__law_told
    have tk := takes_of (X := cxOf (L2.CX P w) P w K mg base ["text", "e"] "_law_told" (defScope s__law_told) T.a__law_told cdv A outer s H E) rfl rfl rfl rfl
    have po := passes_of (X := cxOf (L2.CX P w) P w K mg base ["text", "e"] "_law_told" (defScope s__law_told) T.a__law_told cdv A outer s H E) rfl
    exact (s_one (s_try errs_k01 sc.nd tk (fun _ _ _ tk1 po1 => (s_one (s_ret (d_tup (a_cons d_str (a_cons (d_len T.n_len (a_cons (w1 (d_call (ok_tokens_of T) (hr.mono (by decide)) T.m_tokens_of T.F_tokens_of.kp T.b_tokens_of tk1 (a_cons (d_var 0) a_nil))) a_nil)) (a_cons d_int (a_cons d_str a_nil)))))))) (.named ⟨rfl, by decide, .inl T.g_BadText⟩ T.g_BadText (by decide) T.e_BadText rfl rfl (sui_ok fun a oe cls d pn B0 H0 dd fs' fs hz hf hd hcl hfr => s_cons (s_if (PW.pt (t_or (t_truth (w1 (d_isE T.xi_BadText T.gi_OutOfRange T.ki_BadText_OutOfRange T.n_isinstance hz hf hd (hcl rfl)))) (t_or (t_not (t_truth (w1 (d_isE T.xi_BadText T.gi_TrickError T.ki_BadText_TrickError T.n_isinstance hz hf hd (hcl rfl))))) (t_or1 (t_not (t_truth (w1 (d_isEB T.xi_BadText T.n_ValueError rfl T.kb_BadText_ValueError T.n_isinstance hz hf hd (hcl rfl))))))))) (s_one (s_ret (d_tup (a_cons d_str (a_cons d_int (a_cons d_int (a_cons d_str a_nil))))))) s_nil) (s_one (s_ret (d_tup (a_cons d_str (a_cons (d_fld T.x_BadText.xf (T.x_BadText.nf _ (by decide)) hz hf hd (hcl rfl) hfr) (a_cons (d_fld T.x_BadText.xf (T.x_BadText.nf _ (by decide)) hz hf hd (hcl rfl) hfr) (a_cons (d_fld T.x_BadText.xf (T.x_BadText.nf _ (by decide)) hz hf hd (hcl rfl) hfr) a_nil)))))))) .nil)))
theorem ok__law_good (T : TX K mg P w) : FnOk P w K mg base (L2.CX P w) 1 T.a__law_good T.fd__law_good ["text"] (spD K mg 1 F__law_good) :=
  ok_of (owN := [0, 0, 0]) T.F__law_good sc__law_good fun cdv A outer s H B E hr => by
    have sc := sc__law_good
    have tk := takes_of (X := cxOf (L2.CX P w) P w K mg base ["text", "small", "sign"] "_law_good" (defScope s__law_good) T.a__law_good cdv A outer s H E) rfl rfl rfl rfl
    have po := passes_of (X := cxOf (L2.CX P w) P w K mg base ["text", "small", "sign"] "_law_good" (defScope s__law_good) T.a__law_good cdv A outer s H E) rfl
    exact (s_cons (s_set (ow' := [0, 0, 0]) 1 d_str sc.nd) (s_cons (s_if (PW.pt (t_or (t_lt (w1 (d_len T.n_len (a_cons (f_var 0) a_nil))) (w1 d_int)) (t_or (t_gt (w1 (d_len T.n_len (a_cons (f_var 0) a_nil))) (w1 d_int)) (t_or1 (t_notinS (w1 (d_ix (f_var 0) (w1 d_int))) (f_var 1)))))) (s_one (s_ret d_bl)) s_nil) (s_cons (s_for (vs := [2]) po (i_str (f_var 0)) (g_name 2 sc.nd) (s_one (s_if (PW.pt (t_and (t_notinS (f_var 2) (f_var 1)) (t_and1 (t_notinS (f_var 2) (w1 d_str))))) (s_one (s_ret d_bl)) s_nil))) (s_one (s_ret d_bl)))))
noncomputable def h_law : Env → Out := seqS (sSet 1 (b2 (eC (.int 1)) (b2 (b2 (cB (aC (cF 2 (aC (eV 0) (aC (eC (.int 0)) (aN))) F__law_cell) (aN)) intD) (eC (.int 8)) fdivWD) (eC (.int 13)) modD) addD)) (seqS (sSet 2 (cF 2 (aC (cF 2 (aC (eV 0) (aC (eC (.int 2)) (aN))) F__law_cell) (aC (eV 1) (aN))) F__law_name)) (seqS (ifS (b1 (b2 (b2 (cB (aC (cF 2 (aC (eV 0) (aC (eC (.int 1)) (aN))) F__law_cell) (aN)) intD) (eC (.int 2)) modD) (eC (.int 1)) eqD) boolO) (sSet 2 (b2 (b2 (eCut (eV 2) (oN) (oS (b2 (eV 1) (eC (.int 2)) fdivWD))) (b2 (eC (.str "AZ_- .0a9/+\n")) (b2 (b2 (cB (aC (cF 2 (aC (eV 0) (aC (eC (.int 1)) (aN))) F__law_cell) (aN)) intD) (eC (.int 2)) fdivWD) (eC (.int 12)) modD) ixD) addD) (eCut (eV 2) (oS (b2 (b2 (eV 1) (eC (.int 2)) fdivWD) (eC (.int 1)) addD)) (oN)) addD)) (sNx)) (seqS (sFor (b1 (eL (nL (aC (eV 2) (aC (eC (.str "")) (aC (eC (.str "trick")) (aC (b2 (eC (.str "a")) (eC (.int 12)) mulSD) (aC (b2 (eC (.str "a")) (eC (.int 13)) mulSD) (aN)))))))) lstO) (tgN 3) (seqS (sSet 14 (cF 1 (aC (eV 3) (aN)) F_is_name)) (ifS (tOr' (tNot' (b1 (b1 (eV 14) (isiD "bool")) truD)) (b1 (b2 (eV 14) (cF 1 (aC (eV 3) (aN)) F__law_good) neD) boolO)) (sRet (eC (.bool false))) (sNx)))) (seqS (sSet 4 (eL (nL (aC (eC (.str "01")) (aC (eC (.str "00")) (aC (eC (.str "007")) (aC (eC (.str "1000001")) (aC (eC (.str "99999999999")) (aC (eC (.str "5a")) (aC (eC (.str "0x")) (aC (eC (.str "A")) (aC (eC (.str "@")) (aC (eC (.str "!")) (aC (eC (.str "\"")) (aC (eC (.str "'")) (aC (eC (.str ".")) (aC (eC (.str "5.5")) (aC (eC (.str "?")) (aC (eC (.str ">")) (aC (eC (.str "^")) (aC (eC (.str "/")) (aN)))))))))))))))))))))) (seqS (sSet 4 (b2 (eV 4) (eL (nL (aC (eC (.str "_")) (aC (eC (.str "&")) (aC (eC (.str "|")) (aC (eC (.str "~")) (aC (eC (.str "$")) (aC (eC (.str "\\")) (aC (eC (.str "Z9")) (aC (eC (.str "[")) (aC (eC (.str "]")) (aC (eC (.str "a_")) (aC (eC (.str "`")) (aC (eC (.str "aB")) (aN))))))))))))))) addD)) (seqS (sDispC 5 [(("5.5" : Str), 1), (("a_" : Str), 1), (("aB" : Str), 1)]) (seqS (sSet 6 (eC (.str ""))) (seqS (sSet 7 (eC (.str ""))) (seqS (sSet 8 (eT (aC (eC (.int 1)) (aC (eC (.int 1)) (aN))))) (seqS (sSet 9 (eC .none)) (seqS (sSet 10 (cB (aC (eC (.int 15)) (aC (cB (aC (eC (.int 1)) (aC (b2 (cB (aC (eV 0) (aN)) lenD) (eC (.int 3)) subD) (aN))) maxD) (aN))) minD)) (seqS (sSet 11 (b2 (cB (aC (cF 2 (aC (eV 0) (aC (eC (.int 0)) (aN))) F__law_cell) (aN)) intD) (eV 10) modD)) (seqS (sSet 12 (b2 (cB (aC (cF 2 (aC (eV 0) (aC (eC (.int 1)) (aN))) F__law_cell) (aN)) intD) (b2 (eC (.int 2)) (eV 10) mulD) modD)) (seqS (sFor (cB (aC (eV 10) (aN)) rg1) (tgN 13) (seqS (sSet 15 (cF 1 (aC (cF 2 (aC (eV 0) (aC (b2 (eC (.int 3)) (eV 13) addD) (aN))) F__law_cell) (aN)) F__law_token)) (seqS (sSet 16 (cB (aC (b2 (eV 15) (eC (.int 1)) ixD) (aN)) strA)) (seqS (sSet 17 (cF 1 (aC (b2 (b2 (cF 2 (aC (eV 0) (aC (b2 (eC (.int 3)) (eV 13) addD) (aN))) F__law_cell) (eC (.int 3)) fdivWD) (eV 13) addD) (aN)) F__law_gap)) (seqS (sSet 7 (b2 (b2 (eV 7) (eV 16) addD) (eV 17) addD)) (seqS (ifS (tOr' (b1 (b2 (eV 13) (eV 11) eqD) boolO) (b1 (b2 (eV 13) (eV 12) eqD) boolO)) (seqS (sSet 18 (b2 (eV 4) (b2 (cB (aC (b2 (cF 2 (aC (eV 0) (aC (eC (.int 2)) (aN))) F__law_cell) (eV 13) addD) (aN)) intD) (cB (aC (eV 4) (aN)) lenD) modD) ixD)) (seqS (ifS (b1 (b1 (eV 9) fun d => some (.bool (isNoneD d))) boolO) (sSet 9 (eT (aC (b2 (eV 8) (eC (.int 0)) ixD) (aC (b2 (b2 (eV 8) (eC (.int 1)) ixD) (eDget2 val3 5 (eV 18) (eC (.int 0))) addD) (aN))))) (sNx)) (sSet 16 (b2 (b2 (eV 18) (eC (.str " ")) addD) (eV 16) addD)))) (sNx)) (seqS (sSet 6 (b2 (b2 (eV 6) (eV 16) addD) (eV 17) addD)) (sSet 8 (cF 3 (aC (b2 (eV 8) (eC (.int 0)) ixD) (aC (b2 (eV 8) (eC (.int 1)) ixD) (aC (b2 (eV 16) (eV 17) addD) (aN)))) F__law_after))))))))) (seqS (ifS (b1 (b2 (cF 1 (aC (eV 7) (aN)) F__law_told) (eT (aC (eC (.str "value")) (aC (b2 (eV 10) (eC (.int 1)) addD) (aC (eC (.int 0)) (aC (eC (.str "")) (aN)))))) neD) boolO) (sRet (eC (.bool false))) (sNx)) (sRet (b2 (cF 1 (aC (eV 6) (aN)) F__law_told) (eT (aC (eC (.str "text")) (aC (b2 (eV 9) (eC (.int 0)) ixD) (aC (b2 (eV 9) (eC (.int 1)) ixD) (aC (eC (.str "token")) (aN)))))) eqD)))))))))))))))))
theorem h_law_eq : h_law = g_law := rfl
theorem ok_law0 (T : TX K mg P w) : FnOk P w K mg base (L2.CX P w) 8 T.a_law T.fd_law ["script"] (spD K mg 1 (callS 19 h_law)) :=
  ok_of (owN := [0, 0, 0, 0, 0, 3, 0, 0, 0, 0, 0, 0, 0, 0, 0, 0, 0, 0, 0]) T.F_law sc_law fun cdv A outer s H B E hr => by
    have sc := sc_law
    have tk := takes_of (X := cxOf (L2.CX P w) P w K mg base ["script", "size", "name", "one", "runs", "shift", "text", "plain", "place", "found", "count", "first", "second", "k", "told", "token", "spelled", "gap", "wrong"] "law" (defScope s_law) T.a_law cdv A outer s H E) rfl rfl rfl rfl
    have po := passes_of (X := cxOf (L2.CX P w) P w K mg base ["script", "size", "name", "one", "runs", "shift", "text", "plain", "place", "found", "count", "first", "second", "k", "told", "token", "spelled", "gap", "wrong"] "law" (defScope s_law) T.a_law cdv A outer s H E) rfl
    exact (s_cons (s_set (ow' := [0, 0, 0, 0, 0, 0, 0, 0, 0, 0, 0, 0, 0, 0, 0, 0, 0, 0, 0]) 1 (d_add (w1 d_int) (w1 (d_mod (w1 (d_fdivW (w1 (d_intc T.n_int (a_cons (w1 (d_call (ok__law_cell T) (hr.mono (by decide)) T.m__law_cell T.F__law_cell.kp T.b__law_cell tk (a_cons (d_var 0) (a_cons d_int a_nil)))) a_nil))) (w1 d_int))) (w1 d_int)))) sc.nd) (s_cons (s_set (ow' := [0, 0, 0, 0, 0, 0, 0, 0, 0, 0, 0, 0, 0, 0, 0, 0, 0, 0, 0]) 2 (d_call (ok__law_name T) (hr.mono (by decide)) T.m__law_name T.F__law_name.kp T.b__law_name tk (a_cons (d_call (ok__law_cell T) (hr.mono (by decide)) T.m__law_cell T.F__law_cell.kp T.b__law_cell tk (a_cons (d_var 0) (a_cons d_int a_nil))) (a_cons (d_var 1) a_nil))) sc.nd) (s_cons (s_if (t_eq hr (w1 (d_mod (w1 (d_intc T.n_int (a_cons (w1 (d_call (ok__law_cell T) (hr.mono (by decide)) T.m__law_cell T.F__law_cell.kp T.b__law_cell tk (a_cons (d_var 0) (a_cons d_int a_nil)))) a_nil))) (w1 d_int))) (w1 d_int)) (s_one (s_set (ow' := [0, 0, 0, 0, 0, 0, 0, 0, 0, 0, 0, 0, 0, 0, 0, 0, 0, 0, 0]) 2 (d_add (w1 (d_add (w1 (d_cut (f_var 2) o_none (o_some (w1 (d_fdivW (f_var 1) (w1 d_int)))))) (w1 (d_ix (w1 d_str) (w1 (d_mod (w1 (d_fdivW (w1 (d_intc T.n_int (a_cons (w1 (d_call (ok__law_cell T) (hr.mono (by decide)) T.m__law_cell T.F__law_cell.kp T.b__law_cell tk (a_cons (d_var 0) (a_cons d_int a_nil)))) a_nil))) (w1 d_int))) (w1 d_int))))))) (w1 (d_cut (f_var 2) (o_some (w1 (d_add (w1 (d_fdivW (f_var 1) (w1 d_int))) (w1 d_int)))) o_none))) sc.nd)) s_nil) (s_cons (s_for (vs := [3]) po (i_list (e_of_n (n_lst (a_cons (d_var 2) (a_cons d_str (a_cons d_str (a_cons (d_mulS (w1 d_str) (w1 d_int)) (a_cons (d_mulS (w1 d_str) (w1 d_int)) a_nil)))))))) (g_name 3 sc.nd) (s_cons (s_set (ow' := [0, 0, 0, 0, 0, 0, 0, 0, 0, 0, 0, 0, 0, 0, 0, 0, 0, 0, 0]) 14 (d_call (ok_is_name T) (hr.mono (by decide)) T.m_is_name T.F_is_name.kp T.b_is_name tk (a_cons (d_var 3) a_nil)) sc.nd) (s_one (s_if (PW.pt (t_or (t_not (t_truth (w1 (d_isi "bool" T.n_isinstance T.n_bool rfl (f_var 14))))) (t_or1 (t_ne hr (f_var 14) (w1 (d_call (ok__law_good T) (hr.mono (by decide)) T.m__law_good T.F__law_good.kp T.b__law_good tk (a_cons (d_var 3) a_nil))))))) (s_one (s_ret d_bl)) s_nil)))) (s_cons (s_set (ow' := [0, 0, 0, 0, 0, 0, 0, 0, 0, 0, 0, 0, 0, 0, 0, 0, 0, 0, 0]) 4 (e_of_n (n_lst (a_cons d_str (a_cons d_str (a_cons d_str (a_cons d_str (a_cons d_str (a_cons d_str (a_cons d_str (a_cons d_str (a_cons d_str (a_cons d_str (a_cons d_str (a_cons d_str (a_cons d_str (a_cons d_str (a_cons d_str (a_cons d_str (a_cons d_str (a_cons d_str a_nil)))))))))))))))))))) sc.nd) (s_cons (s_set (ow' := [0, 0, 0, 0, 0, 0, 0, 0, 0, 0, 0, 0, 0, 0, 0, 0, 0, 0, 0]) 4 (d_add (f_var 4) (w1 (e_of_n (n_lst (a_cons d_str (a_cons d_str (a_cons d_str (a_cons d_str (a_cons d_str (a_cons d_str (a_cons d_str (a_cons d_str (a_cons d_str (a_cons d_str (a_cons d_str (a_cons d_str a_nil)))))))))))))))) sc.nd) (s_cons (s_dispC (ow' := [0, 0, 0, 0, 0, 3, 0, 0, 0, 0, 0, 0, 0, 0, 0, 0, 0, 0, 0]) 5 [(("5.5" : Str), 1), (("a_" : Str), 1), (("aB" : Str), 1)] sc.nd (pps_cons pe_str pe_int (pps_cons pe_str pe_int (pps_cons pe_str pe_int pps_nil)))) (s_cons (s_set (ow' := [0, 0, 0, 0, 0, 3, 0, 0, 0, 0, 0, 0, 0, 0, 0, 0, 0, 0, 0]) 6 d_str sc.nd) (s_cons (s_set (ow' := [0, 0, 0, 0, 0, 3, 0, 0, 0, 0, 0, 0, 0, 0, 0, 0, 0, 0, 0]) 7 d_str sc.nd) (s_cons (s_set (ow' := [0, 0, 0, 0, 0, 3, 0, 0, 0, 0, 0, 0, 0, 0, 0, 0, 0, 0, 0]) 8 (d_tup (a_cons d_int (a_cons d_int a_nil))) sc.nd) (s_cons (s_set (ow' := [0, 0, 0, 0, 0, 3, 0, 0, 0, 0, 0, 0, 0, 0, 0, 0, 0, 0, 0]) 9 d_non sc.nd) (s_cons (s_set (ow' := [0, 0, 0, 0, 0, 3, 0, 0, 0, 0, 0, 0, 0, 0, 0, 0, 0, 0, 0]) 10 (d_min T.n_min (a_cons (w1 d_int) (a_cons (w1 (d_max T.n_max (a_cons (w1 d_int) (a_cons (w1 (d_sub (w1 (d_len T.n_len (a_cons (f_var 0) a_nil))) (w1 d_int))) a_nil)))) a_nil))) sc.nd) (s_cons (s_set (ow' := [0, 0, 0, 0, 0, 3, 0, 0, 0, 0, 0, 0, 0, 0, 0, 0, 0, 0, 0]) 11 (d_mod (w1 (d_intc T.n_int (a_cons (w1 (d_call (ok__law_cell T) (hr.mono (by decide)) T.m__law_cell T.F__law_cell.kp T.b__law_cell tk (a_cons (d_var 0) (a_cons d_int a_nil)))) a_nil))) (f_var 10)) sc.nd) (s_cons (s_set (ow' := [0, 0, 0, 0, 0, 3, 0, 0, 0, 0, 0, 0, 0, 0, 0, 0, 0, 0, 0]) 12 (d_mod (w1 (d_intc T.n_int (a_cons (w1 (d_call (ok__law_cell T) (hr.mono (by decide)) T.m__law_cell T.F__law_cell.kp T.b__law_cell tk (a_cons (d_var 0) (a_cons d_int a_nil)))) a_nil))) (w1 (d_mul (w1 d_int) (f_var 10)))) sc.nd) (s_cons (s_for (vs := [13]) po (i_rg1 (a_cons (f_var 10) a_nil) (hm := T.n_range)) (g_name 13 sc.nd) (s_cons (s_set (ow' := [0, 0, 0, 0, 0, 3, 0, 0, 0, 0, 0, 0, 0, 0, 0, 0, 0, 0, 0]) 15 (d_call (ok__law_token T) (hr.mono (by decide)) T.m__law_token T.F__law_token.kp T.b__law_token tk (a_cons (d_call (ok__law_cell T) (hr.mono (by decide)) T.m__law_cell T.F__law_cell.kp T.b__law_cell tk (a_cons (d_var 0) (a_cons (d_add (w1 d_int) (f_var 13)) a_nil))) a_nil)) sc.nd) (s_cons (s_set (ow' := [0, 0, 0, 0, 0, 3, 0, 0, 0, 0, 0, 0, 0, 0, 0, 0, 0, 0, 0]) 16 (d_strA T.n_str (a_cons (w1 (d_ix (f_var 15) (w1 d_int))) a_nil)) sc.nd) (s_cons (s_set (ow' := [0, 0, 0, 0, 0, 3, 0, 0, 0, 0, 0, 0, 0, 0, 0, 0, 0, 0, 0]) 17 (d_call (ok__law_gap T) (hr.mono (by decide)) T.m__law_gap T.F__law_gap.kp T.b__law_gap tk (a_cons (d_add (w1 (d_fdivW (w1 (d_call (ok__law_cell T) (hr.mono (by decide)) T.m__law_cell T.F__law_cell.kp T.b__law_cell tk (a_cons (d_var 0) (a_cons (d_add (w1 d_int) (f_var 13)) a_nil)))) (w1 d_int))) (f_var 13)) a_nil)) sc.nd) (s_cons (s_set (ow' := [0, 0, 0, 0, 0, 3, 0, 0, 0, 0, 0, 0, 0, 0, 0, 0, 0, 0, 0]) 7 (d_add (w1 (d_add (f_var 7) (f_var 16))) (f_var 17)) sc.nd) (s_cons (s_if (PW.pt (t_or (t_eq hr (f_var 13) (f_var 11)) (t_or1 (t_eq hr (f_var 13) (f_var 12))))) (s_cons (s_set (ow' := [0, 0, 0, 0, 0, 3, 0, 0, 0, 0, 0, 0, 0, 0, 0, 0, 0, 0, 0]) 18 (d_ix (f_var 4) (w1 (d_mod (w1 (d_intc T.n_int (a_cons (w1 (d_add (w1 (d_call (ok__law_cell T) (hr.mono (by decide)) T.m__law_cell T.F__law_cell.kp T.b__law_cell tk (a_cons (d_var 0) (a_cons d_int a_nil)))) (f_var 13))) a_nil))) (w1 (d_len T.n_len (a_cons (f_var 4) a_nil)))))) sc.nd) (s_cons (s_if (t_isN (f_var 9)) (s_one (s_set (ow' := [0, 0, 0, 0, 0, 3, 0, 0, 0, 0, 0, 0, 0, 0, 0, 0, 0, 0, 0]) 9 (d_tup (a_cons (d_ix (f_var 8) (w1 d_int)) (a_cons (d_add (w1 (d_ix (f_var 8) (w1 d_int))) (w1 (d_dget2 ask_3 (.inl rfl) 5 hr (d_var 18) d_int))) a_nil))) sc.nd)) s_nil) (s_one (s_set (ow' := [0, 0, 0, 0, 0, 3, 0, 0, 0, 0, 0, 0, 0, 0, 0, 0, 0, 0, 0]) 16 (d_add (w1 (d_add (f_var 18) (w1 d_str))) (f_var 16)) sc.nd)))) s_nil) (s_cons (s_set (ow' := [0, 0, 0, 0, 0, 3, 0, 0, 0, 0, 0, 0, 0, 0, 0, 0, 0, 0, 0]) 6 (d_add (w1 (d_add (f_var 6) (f_var 16))) (f_var 17)) sc.nd) (s_one (s_set (ow' := [0, 0, 0, 0, 0, 3, 0, 0, 0, 0, 0, 0, 0, 0, 0, 0, 0, 0, 0]) 8 (d_call (ok__law_after T) (hr.mono (by decide)) T.m__law_after T.F__law_after.kp T.b__law_after tk (a_cons (d_ix (f_var 8) (w1 d_int)) (a_cons (d_ix (f_var 8) (w1 d_int)) (a_cons (d_add (f_var 16) (f_var 17)) a_nil)))) sc.nd))))))))) (s_cons (s_if (t_ne hr (w1 (d_call (ok__law_told T) (hr.mono (by decide)) T.m__law_told T.F__law_told.kp T.b__law_told tk (a_cons (d_var 7) a_nil))) (w1 (d_tup (a_cons d_str (a_cons (d_add (f_var 10) (w1 d_int)) (a_cons d_int (a_cons d_str a_nil))))))) (s_one (s_ret d_bl)) s_nil) (s_one (s_ret (d_eq hr (w1 (d_call (ok__law_told T) (hr.mono (by decide)) T.m__law_told T.F__law_told.kp T.b__law_told tk (a_cons (d_var 6) a_nil))) (w1 (d_tup (a_cons d_str (a_cons (d_ix (f_var 9) (w1 d_int)) (a_cons (d_ix (f_var 9) (w1 d_int)) (a_cons d_str a_nil)))))))))))))))))))))))))
theorem ok_law (T : TX K mg P w) : FnOk P w K mg base (L2.CX P w) 8 T.a_law T.fd_law ["script"] (spD K mg 1 F_law) := by
  have h := ok_law0 (w := w) (base := base) T
  rw [h_law_eq] at h
  exact h
end
end DL
set_option Elab.async false
set_option linter.all false
set_option maxRecDepth 100000
set_option maxHeartbeats 8000000

/-! What the top has written, and the end (printed by gen.py). -/
namespace DL
open PySem PySem.Spec PyProof.Rows L2

/-- the errors as they stand behind the top -/
theorem all_mk {P : Program} {w : World} {K : PySem.W.Frag} {h : Heap} {mg : Str → Option Value} {fa : Addr} (hP : (P.main.scope.names.lookup ("super" : Str)).isSome = false) (X : K.In h) (G : h.Ns mainGlobals mg) (hfa : mg "law" = some (.ref fa))
    {C_TrickError C_BadText C_OutOfRange N_BadText I_BadText cda_BadText cc_BadText N_OutOfRange I_OutOfRange cda_OutOfRange cc_OutOfRange f_is_letter f_is_any_letter f_is_digit f_is_name f_run_of_digits f_run_of_letters f_number_of_digits f_token_at f_scan_line f_scan f_tokens_of f__law_cell f__law_draw f__law_name f__law_token f__law_after f__law_gap f__law_told f__law_good f_law : Addr}
    {dd_BadText od_BadText an_BadText cdd_BadText cld_BadText dd_OutOfRange od_OutOfRange an_OutOfRange cdd_OutOfRange cld_OutOfRange od_is_letter an_is_letter od_is_any_letter an_is_any_letter od_is_digit an_is_digit od_is_name an_is_name od_run_of_digits an_run_of_digits od_run_of_letters an_run_of_letters od_number_of_digits an_number_of_digits od_token_at an_token_at od_scan_line an_scan_line od_scan an_scan od_tokens_of an_tokens_of od__law_cell an__law_cell od__law_draw an__law_draw od__law_name an__law_name od__law_token an__law_token od__law_after an__law_after od__law_gap an__law_gap od__law_told an__law_told od__law_good an__law_good od_law an_law : Option Addr}
    {m0_BadText m1_BadText m2_BadText m3_BadText m5_BadText m0_OutOfRange m1_OutOfRange m2_OutOfRange m3_OutOfRange m5_OutOfRange : Option Value}
    {oc_BadText kV_BadText dc_BadText pm_BadText ct_BadText ccl_BadText cl_BadText oc_OutOfRange kV_OutOfRange dc_OutOfRange pm_OutOfRange ct_OutOfRange ccl_OutOfRange cl_OutOfRange oc_is_letter kV_is_letter dc_is_letter pm_is_letter cd_is_letter ct_is_letter oc_is_any_letter kV_is_any_letter dc_is_any_letter pm_is_any_letter cd_is_any_letter ct_is_any_letter oc_is_digit kV_is_digit dc_is_digit pm_is_digit cd_is_digit ct_is_digit oc_is_name kV_is_name dc_is_name pm_is_name cd_is_name ct_is_name oc_run_of_digits kV_run_of_digits dc_run_of_digits pm_run_of_digits cd_run_of_digits ct_run_of_digits oc_run_of_letters kV_run_of_letters dc_run_of_letters pm_run_of_letters cd_run_of_letters ct_run_of_letters oc_number_of_digits kV_number_of_digits dc_number_of_digits pm_number_of_digits cd_number_of_digits ct_number_of_digits oc_token_at kV_token_at dc_token_at pm_token_at cd_token_at ct_token_at oc_scan_line kV_scan_line dc_scan_line pm_scan_line cd_scan_line ct_scan_line oc_scan kV_scan dc_scan pm_scan cd_scan ct_scan oc_tokens_of kV_tokens_of dc_tokens_of pm_tokens_of cd_tokens_of ct_tokens_of oc__law_cell kV__law_cell dc__law_cell pm__law_cell cd__law_cell ct__law_cell oc__law_draw kV__law_draw dc__law_draw pm__law_draw cd__law_draw ct__law_draw oc__law_name kV__law_name dc__law_name pm__law_name cd__law_name ct__law_name oc__law_token kV__law_token dc__law_token pm__law_token cd__law_token ct__law_token oc__law_after kV__law_after dc__law_after pm__law_after cd__law_after ct__law_after oc__law_gap kV__law_gap dc__law_gap pm__law_gap cd__law_gap ct__law_gap oc__law_told kV__law_told dc__law_told pm__law_told cd__law_told ct__law_told oc__law_good kV__law_good dc__law_good pm__law_good cd__law_good ct__law_good oc_law kV_law dc_law pm_law cd_law ct_law u_LONGEST u_LONGEST_NUMBER u_MOST_NUMBER u_SIGNS : Value}
    {bs_BadText bm_BadText sub_BadText bs_OutOfRange bm_OutOfRange sub_OutOfRange : List Value}
    {nm_BadText q_BadText fl_BadText nm_OutOfRange q_OutOfRange fl_OutOfRange : Str}
    {osl_BadText ccs_BadText csl_BadText osl_OutOfRange ccs_OutOfRange csl_OutOfRange sl_is_letter sl_is_any_letter sl_is_digit sl_is_name sl_run_of_digits sl_run_of_letters sl_number_of_digits sl_token_at sl_scan_line sl_scan sl_tokens_of sl__law_cell sl__law_draw sl__law_name sl__law_token sl__law_after sl__law_gap sl__law_told sl__law_good sl_law : Array (Option Value)}
    {sn_BadText sn_OutOfRange : List Str}
    {ab_BadText ab_OutOfRange : Bool}
    {col_BadText col_OutOfRange : Option Bool}
    {vs_BadText vs_OutOfRange : Array Value}
    {tf_BadText tf_OutOfRange : Tok}
    (aC_TrickError : PySem.W.nsIn K mainGlobals "TrickError" = some (some (.ref C_TrickError)))
    (aC_BadText : PySem.W.nsIn K mainGlobals "BadText" = some (some (.ref C_BadText)))
    (aC_OutOfRange : PySem.W.nsIn K mainGlobals "OutOfRange" = some (some (.ref C_OutOfRange)))
    (xL_BadText : K.lookup C_BadText = some (excClassObj nm_BadText q_BadText C_BadText N_BadText bs_BadText bm_BadText true sn_BadText sub_BadText ab_BadText col_BadText dd_BadText m0_BadText m1_BadText m2_BadText m3_BadText m5_BadText "ValueError.__new__"))
    (rv_BadText : PySem.HandSPX.refsVE bm_BadText = true)
    (sa_BadText : PySem.W.findIn K (.ref C_BadText) "__setattr__" = some (some (.builtin "object.__setattr__")))
    (ga_BadText : PySem.W.findIn K (.ref C_BadText) "__getattribute__" = some (some (.builtin "BaseException.__getattribute__")))
    (gg_BadText : PySem.W.findIn K (.ref C_BadText) "__getattr__" = some none)
    (nl_BadText : PySem.W.findIn K (.ref C_BadText) "label" = some none)
    (nfline_BadText : PySem.W.findIn K (.ref C_BadText) "line" = some none)
    (nfcolumn_BadText : PySem.W.findIn K (.ref C_BadText) "column" = some none)
    (nfreason_BadText : PySem.W.findIn K (.ref C_BadText) "reason" = some none)
    (ai_BadText : PySem.W.findIn K (.ref C_BadText) "__init__" = some (some (.ref I_BadText)))
    (ti_BadText : PySem.W.typeIn K (.ref I_BadText) = some (.type "function"))
    (li_BadText : K.lookup I_BadText = some ⟨oc_BadText, od_BadText, .func (PySem.W.ksFn "__init__" "BadText.__init__" (defArgs i_BadText) (defBody i_BadText) (defScope i_BadText) .none kV_BadText dc_BadText pm_BadText an_BadText (.ref cda_BadText) ct_BadText cc_BadText), osl_BadText⟩)
    (ci_BadText : PySem.W.codeIn K (.ref cda_BadText) "BadText.__init__" = true)
    (lc_BadText : K.lookup cda_BadText = some ⟨ccl_BadText, cdd_BadText, .fields vs_BadText, ccs_BadText⟩)
    (v2_BadText : vs_BadText[2]? = some (.str fl_BadText tf_BadText))
    (fl_BadText_ : ((P.main.file : Str) == fl_BadText) = true)
    (ll_BadText : K.lookup cc_BadText = some ⟨cl_BadText, cld_BadText, .cell (some (.ref C_BadText)), csl_BadText⟩)
    (kC_BadText : PySem.W.keepIn K (.ref C_BadText) = true)
    (eC_BadText : PySem.W.subIn K (.ref C_BadText) (.type "BaseException") = some true)
    (tC_BadText : PySem.W.typeIn K (.ref C_BadText) = some (.type "type"))
    (hC_BadText : PySem.W.hasDictIn K C_BadText = true)
    (mC_BadText : PySem.W.mroIn K C_BadText (.ref C_BadText) = some true)
    (su_BadText : PySem.W.ks_superIn K C_BadText C_BadText "__init__" = some (some (.builtin "ValueError.__init__")))
    (ve_BadText : PySem.W.subIn K (.ref C_BadText) (.type "ValueError") = some true)
    (xL_OutOfRange : K.lookup C_OutOfRange = some (excClassObj nm_OutOfRange q_OutOfRange C_OutOfRange N_OutOfRange bs_OutOfRange bm_OutOfRange true sn_OutOfRange sub_OutOfRange ab_OutOfRange col_OutOfRange dd_OutOfRange m0_OutOfRange m1_OutOfRange m2_OutOfRange m3_OutOfRange m5_OutOfRange "ValueError.__new__"))
    (rv_OutOfRange : PySem.HandSPX.refsVE bm_OutOfRange = true)
    (sa_OutOfRange : PySem.W.findIn K (.ref C_OutOfRange) "__setattr__" = some (some (.builtin "object.__setattr__")))
    (ga_OutOfRange : PySem.W.findIn K (.ref C_OutOfRange) "__getattribute__" = some (some (.builtin "BaseException.__getattribute__")))
    (gg_OutOfRange : PySem.W.findIn K (.ref C_OutOfRange) "__getattr__" = some none)
    (nl_OutOfRange : PySem.W.findIn K (.ref C_OutOfRange) "label" = some none)
    (nfvalue_OutOfRange : PySem.W.findIn K (.ref C_OutOfRange) "value" = some none)
    (ai_OutOfRange : PySem.W.findIn K (.ref C_OutOfRange) "__init__" = some (some (.ref I_OutOfRange)))
    (ti_OutOfRange : PySem.W.typeIn K (.ref I_OutOfRange) = some (.type "function"))
    (li_OutOfRange : K.lookup I_OutOfRange = some ⟨oc_OutOfRange, od_OutOfRange, .func (PySem.W.ksFn "__init__" "OutOfRange.__init__" (defArgs i_OutOfRange) (defBody i_OutOfRange) (defScope i_OutOfRange) .none kV_OutOfRange dc_OutOfRange pm_OutOfRange an_OutOfRange (.ref cda_OutOfRange) ct_OutOfRange cc_OutOfRange), osl_OutOfRange⟩)
    (ci_OutOfRange : PySem.W.codeIn K (.ref cda_OutOfRange) "OutOfRange.__init__" = true)
    (lc_OutOfRange : K.lookup cda_OutOfRange = some ⟨ccl_OutOfRange, cdd_OutOfRange, .fields vs_OutOfRange, ccs_OutOfRange⟩)
    (v2_OutOfRange : vs_OutOfRange[2]? = some (.str fl_OutOfRange tf_OutOfRange))
    (fl_OutOfRange_ : ((P.main.file : Str) == fl_OutOfRange) = true)
    (ll_OutOfRange : K.lookup cc_OutOfRange = some ⟨cl_OutOfRange, cld_OutOfRange, .cell (some (.ref C_OutOfRange)), csl_OutOfRange⟩)
    (kC_OutOfRange : PySem.W.keepIn K (.ref C_OutOfRange) = true)
    (eC_OutOfRange : PySem.W.subIn K (.ref C_OutOfRange) (.type "BaseException") = some true)
    (tC_OutOfRange : PySem.W.typeIn K (.ref C_OutOfRange) = some (.type "type"))
    (hC_OutOfRange : PySem.W.hasDictIn K C_OutOfRange = true)
    (mC_OutOfRange : PySem.W.mroIn K C_OutOfRange (.ref C_OutOfRange) = some true)
    (su_OutOfRange : PySem.W.ks_superIn K C_OutOfRange C_OutOfRange "__init__" = some (some (.builtin "ValueError.__init__")))
    (ve_OutOfRange : PySem.W.subIn K (.ref C_OutOfRange) (.type "ValueError") = some true)
    (st : PySem.W.nsIn K cStatics "thirdparty.any" = some none)
    (zsuper : PySem.W.nsIn K mainGlobals "super" = some none)
    (em_BadText_BadText : PySem.W.subIn K (.ref C_BadText) (.ref C_BadText) = some true)
    (em_OutOfRange_BadText : PySem.W.subIn K (.ref C_OutOfRange) (.ref C_BadText) = some false)
    (cl_BadText_ : PySem.W.findIn K (.ref C_BadText) "__class__" = some (some (.builtin "object.__class__")))
    (mo_BadText : PySem.W.mroIn K C_BadText (.type "object") = some true)
    (spg : PySem.W.specialIn K (.builtin "object.__class__") "__get__" = some (some (.builtin "getset_descriptor.__get__")))
    (tkg : PySem.W.takesIn K (.builtin "object.__class__") = some true)
    (tC_TrickError : PySem.W.typeIn K (.ref C_TrickError) = some (.type "type"))
    (hC_TrickError : PySem.W.hasDictIn K C_TrickError = true)
    (is_BadText_OutOfRange : PySem.W.subIn K (.ref C_BadText) (.ref C_OutOfRange) = some false)
    (ne_BadText_OutOfRange : ((Value.ref C_BadText : Value) == Value.ref C_OutOfRange) = false)
    (is_BadText_TrickError : PySem.W.subIn K (.ref C_BadText) (.ref C_TrickError) = some true)
    (af_is_letter : PySem.W.nsIn K mainGlobals "is_letter" = some (some (.ref f_is_letter)))
    (lf_is_letter : K.lookup f_is_letter = some ⟨oc_is_letter, od_is_letter, .func (PySem.W.fnOf "is_letter" "is_letter" (defArgs s_is_letter) (defBody s_is_letter) (defScope s_is_letter) .none kV_is_letter dc_is_letter pm_is_letter an_is_letter cd_is_letter ct_is_letter), sl_is_letter⟩)
    (cf_is_letter : PySem.W.codeIn K cd_is_letter "is_letter" = true)
    (kf_is_letter : PySem.W.keepIn K (.ref f_is_letter) = true)
    (af_is_any_letter : PySem.W.nsIn K mainGlobals "is_any_letter" = some (some (.ref f_is_any_letter)))
    (lf_is_any_letter : K.lookup f_is_any_letter = some ⟨oc_is_any_letter, od_is_any_letter, .func (PySem.W.fnOf "is_any_letter" "is_any_letter" (defArgs s_is_any_letter) (defBody s_is_any_letter) (defScope s_is_any_letter) .none kV_is_any_letter dc_is_any_letter pm_is_any_letter an_is_any_letter cd_is_any_letter ct_is_any_letter), sl_is_any_letter⟩)
    (cf_is_any_letter : PySem.W.codeIn K cd_is_any_letter "is_any_letter" = true)
    (kf_is_any_letter : PySem.W.keepIn K (.ref f_is_any_letter) = true)
    (af_is_digit : PySem.W.nsIn K mainGlobals "is_digit" = some (some (.ref f_is_digit)))
    (lf_is_digit : K.lookup f_is_digit = some ⟨oc_is_digit, od_is_digit, .func (PySem.W.fnOf "is_digit" "is_digit" (defArgs s_is_digit) (defBody s_is_digit) (defScope s_is_digit) .none kV_is_digit dc_is_digit pm_is_digit an_is_digit cd_is_digit ct_is_digit), sl_is_digit⟩)
    (cf_is_digit : PySem.W.codeIn K cd_is_digit "is_digit" = true)
    (kf_is_digit : PySem.W.keepIn K (.ref f_is_digit) = true)
    (af_is_name : PySem.W.nsIn K mainGlobals "is_name" = some (some (.ref f_is_name)))
    (lf_is_name : K.lookup f_is_name = some ⟨oc_is_name, od_is_name, .func (PySem.W.fnOf "is_name" "is_name" (defArgs s_is_name) (defBody s_is_name) (defScope s_is_name) .none kV_is_name dc_is_name pm_is_name an_is_name cd_is_name ct_is_name), sl_is_name⟩)
    (cf_is_name : PySem.W.codeIn K cd_is_name "is_name" = true)
    (kf_is_name : PySem.W.keepIn K (.ref f_is_name) = true)
    (af_run_of_digits : PySem.W.nsIn K mainGlobals "run_of_digits" = some (some (.ref f_run_of_digits)))
    (lf_run_of_digits : K.lookup f_run_of_digits = some ⟨oc_run_of_digits, od_run_of_digits, .func (PySem.W.fnOf "run_of_digits" "run_of_digits" (defArgs s_run_of_digits) (defBody s_run_of_digits) (defScope s_run_of_digits) .none kV_run_of_digits dc_run_of_digits pm_run_of_digits an_run_of_digits cd_run_of_digits ct_run_of_digits), sl_run_of_digits⟩)
    (cf_run_of_digits : PySem.W.codeIn K cd_run_of_digits "run_of_digits" = true)
    (kf_run_of_digits : PySem.W.keepIn K (.ref f_run_of_digits) = true)
    (af_run_of_letters : PySem.W.nsIn K mainGlobals "run_of_letters" = some (some (.ref f_run_of_letters)))
    (lf_run_of_letters : K.lookup f_run_of_letters = some ⟨oc_run_of_letters, od_run_of_letters, .func (PySem.W.fnOf "run_of_letters" "run_of_letters" (defArgs s_run_of_letters) (defBody s_run_of_letters) (defScope s_run_of_letters) .none kV_run_of_letters dc_run_of_letters pm_run_of_letters an_run_of_letters cd_run_of_letters ct_run_of_letters), sl_run_of_letters⟩)
    (cf_run_of_letters : PySem.W.codeIn K cd_run_of_letters "run_of_letters" = true)
    (kf_run_of_letters : PySem.W.keepIn K (.ref f_run_of_letters) = true)
    (af_number_of_digits : PySem.W.nsIn K mainGlobals "number_of_digits" = some (some (.ref f_number_of_digits)))
    (lf_number_of_digits : K.lookup f_number_of_digits = some ⟨oc_number_of_digits, od_number_of_digits, .func (PySem.W.fnOf "number_of_digits" "number_of_digits" (defArgs s_number_of_digits) (defBody s_number_of_digits) (defScope s_number_of_digits) .none kV_number_of_digits dc_number_of_digits pm_number_of_digits an_number_of_digits cd_number_of_digits ct_number_of_digits), sl_number_of_digits⟩)
    (cf_number_of_digits : PySem.W.codeIn K cd_number_of_digits "number_of_digits" = true)
    (kf_number_of_digits : PySem.W.keepIn K (.ref f_number_of_digits) = true)
    (af_token_at : PySem.W.nsIn K mainGlobals "token_at" = some (some (.ref f_token_at)))
    (lf_token_at : K.lookup f_token_at = some ⟨oc_token_at, od_token_at, .func (PySem.W.fnOf "token_at" "token_at" (defArgs s_token_at) (defBody s_token_at) (defScope s_token_at) .none kV_token_at dc_token_at pm_token_at an_token_at cd_token_at ct_token_at), sl_token_at⟩)
    (cf_token_at : PySem.W.codeIn K cd_token_at "token_at" = true)
    (kf_token_at : PySem.W.keepIn K (.ref f_token_at) = true)
    (af_scan_line : PySem.W.nsIn K mainGlobals "scan_line" = some (some (.ref f_scan_line)))
    (lf_scan_line : K.lookup f_scan_line = some ⟨oc_scan_line, od_scan_line, .func (PySem.W.fnOf "scan_line" "scan_line" (defArgs s_scan_line) (defBody s_scan_line) (defScope s_scan_line) .none kV_scan_line dc_scan_line pm_scan_line an_scan_line cd_scan_line ct_scan_line), sl_scan_line⟩)
    (cf_scan_line : PySem.W.codeIn K cd_scan_line "scan_line" = true)
    (kf_scan_line : PySem.W.keepIn K (.ref f_scan_line) = true)
    (af_scan : PySem.W.nsIn K mainGlobals "scan" = some (some (.ref f_scan)))
    (lf_scan : K.lookup f_scan = some ⟨oc_scan, od_scan, .func (PySem.W.fnOf "scan" "scan" (defArgs s_scan) (defBody s_scan) (defScope s_scan) .none kV_scan dc_scan pm_scan an_scan cd_scan ct_scan), sl_scan⟩)
    (cf_scan : PySem.W.codeIn K cd_scan "scan" = true)
    (kf_scan : PySem.W.keepIn K (.ref f_scan) = true)
    (af_tokens_of : PySem.W.nsIn K mainGlobals "tokens_of" = some (some (.ref f_tokens_of)))
    (lf_tokens_of : K.lookup f_tokens_of = some ⟨oc_tokens_of, od_tokens_of, .func (PySem.W.fnOf "tokens_of" "tokens_of" (defArgs s_tokens_of) (defBody s_tokens_of) (defScope s_tokens_of) .none kV_tokens_of dc_tokens_of pm_tokens_of an_tokens_of cd_tokens_of ct_tokens_of), sl_tokens_of⟩)
    (cf_tokens_of : PySem.W.codeIn K cd_tokens_of "tokens_of" = true)
    (kf_tokens_of : PySem.W.keepIn K (.ref f_tokens_of) = true)
    (af__law_cell : PySem.W.nsIn K mainGlobals "_law_cell" = some (some (.ref f__law_cell)))
    (lf__law_cell : K.lookup f__law_cell = some ⟨oc__law_cell, od__law_cell, .func (PySem.W.fnOf "_law_cell" "_law_cell" (defArgs s__law_cell) (defBody s__law_cell) (defScope s__law_cell) .none kV__law_cell dc__law_cell pm__law_cell an__law_cell cd__law_cell ct__law_cell), sl__law_cell⟩)
    (cf__law_cell : PySem.W.codeIn K cd__law_cell "_law_cell" = true)
    (kf__law_cell : PySem.W.keepIn K (.ref f__law_cell) = true)
    (af__law_draw : PySem.W.nsIn K mainGlobals "_law_draw" = some (some (.ref f__law_draw)))
    (lf__law_draw : K.lookup f__law_draw = some ⟨oc__law_draw, od__law_draw, .func (PySem.W.fnOf "_law_draw" "_law_draw" (defArgs s__law_draw) (defBody s__law_draw) (defScope s__law_draw) .none kV__law_draw dc__law_draw pm__law_draw an__law_draw cd__law_draw ct__law_draw), sl__law_draw⟩)
    (cf__law_draw : PySem.W.codeIn K cd__law_draw "_law_draw" = true)
    (kf__law_draw : PySem.W.keepIn K (.ref f__law_draw) = true)
    (af__law_name : PySem.W.nsIn K mainGlobals "_law_name" = some (some (.ref f__law_name)))
    (lf__law_name : K.lookup f__law_name = some ⟨oc__law_name, od__law_name, .func (PySem.W.fnOf "_law_name" "_law_name" (defArgs s__law_name) (defBody s__law_name) (defScope s__law_name) .none kV__law_name dc__law_name pm__law_name an__law_name cd__law_name ct__law_name), sl__law_name⟩)
    (cf__law_name : PySem.W.codeIn K cd__law_name "_law_name" = true)
    (kf__law_name : PySem.W.keepIn K (.ref f__law_name) = true)
    (af__law_token : PySem.W.nsIn K mainGlobals "_law_token" = some (some (.ref f__law_token)))
    (lf__law_token : K.lookup f__law_token = some ⟨oc__law_token, od__law_token, .func (PySem.W.fnOf "_law_token" "_law_token" (defArgs s__law_token) (defBody s__law_token) (defScope s__law_token) .none kV__law_token dc__law_token pm__law_token an__law_token cd__law_token ct__law_token), sl__law_token⟩)
    (cf__law_token : PySem.W.codeIn K cd__law_token "_law_token" = true)
    (kf__law_token : PySem.W.keepIn K (.ref f__law_token) = true)
    (af__law_after : PySem.W.nsIn K mainGlobals "_law_after" = some (some (.ref f__law_after)))
    (lf__law_after : K.lookup f__law_after = some ⟨oc__law_after, od__law_after, .func (PySem.W.fnOf "_law_after" "_law_after" (defArgs s__law_after) (defBody s__law_after) (defScope s__law_after) .none kV__law_after dc__law_after pm__law_after an__law_after cd__law_after ct__law_after), sl__law_after⟩)
    (cf__law_after : PySem.W.codeIn K cd__law_after "_law_after" = true)
    (kf__law_after : PySem.W.keepIn K (.ref f__law_after) = true)
    (af__law_gap : PySem.W.nsIn K mainGlobals "_law_gap" = some (some (.ref f__law_gap)))
    (lf__law_gap : K.lookup f__law_gap = some ⟨oc__law_gap, od__law_gap, .func (PySem.W.fnOf "_law_gap" "_law_gap" (defArgs s__law_gap) (defBody s__law_gap) (defScope s__law_gap) .none kV__law_gap dc__law_gap pm__law_gap an__law_gap cd__law_gap ct__law_gap), sl__law_gap⟩)
    (cf__law_gap : PySem.W.codeIn K cd__law_gap "_law_gap" = true)
    (kf__law_gap : PySem.W.keepIn K (.ref f__law_gap) = true)
    (af__law_told : PySem.W.nsIn K mainGlobals "_law_told" = some (some (.ref f__law_told)))
    (lf__law_told : K.lookup f__law_told = some ⟨oc__law_told, od__law_told, .func (PySem.W.fnOf "_law_told" "_law_told" (defArgs s__law_told) (defBody s__law_told) (defScope s__law_told) .none kV__law_told dc__law_told pm__law_told an__law_told cd__law_told ct__law_told), sl__law_told⟩)
    (cf__law_told : PySem.W.codeIn K cd__law_told "_law_told" = true)
    (kf__law_told : PySem.W.keepIn K (.ref f__law_told) = true)
    (af__law_good : PySem.W.nsIn K mainGlobals "_law_good" = some (some (.ref f__law_good)))
    (lf__law_good : K.lookup f__law_good = some ⟨oc__law_good, od__law_good, .func (PySem.W.fnOf "_law_good" "_law_good" (defArgs s__law_good) (defBody s__law_good) (defScope s__law_good) .none kV__law_good dc__law_good pm__law_good an__law_good cd__law_good ct__law_good), sl__law_good⟩)
    (cf__law_good : PySem.W.codeIn K cd__law_good "_law_good" = true)
    (kf__law_good : PySem.W.keepIn K (.ref f__law_good) = true)
    (af_law : PySem.W.nsIn K mainGlobals "law" = some (some (.ref f_law)))
    (lf_law : K.lookup f_law = some ⟨oc_law, od_law, .func (PySem.W.fnOf "law" "law" (defArgs s_law) (defBody s_law) (defScope s_law) .none kV_law dc_law pm_law an_law cd_law ct_law), sl_law⟩)
    (cf_law : PySem.W.codeIn K cd_law "law" = true)
    (kf_law : PySem.W.keepIn K (.ref f_law) = true)
    (z_ValueError : PySem.W.nsIn K mainGlobals "ValueError" = some none)
    (z_abs : PySem.W.nsIn K mainGlobals "abs" = some none)
    (z_bool : PySem.W.nsIn K mainGlobals "bool" = some none)
    (z_int : PySem.W.nsIn K mainGlobals "int" = some none)
    (z_isinstance : PySem.W.nsIn K mainGlobals "isinstance" = some none)
    (z_len : PySem.W.nsIn K mainGlobals "len" = some none)
    (z_max : PySem.W.nsIn K mainGlobals "max" = some none)
    (z_min : PySem.W.nsIn K mainGlobals "min" = some none)
    (z_range : PySem.W.nsIn K mainGlobals "range" = some none)
    (z_str : PySem.W.nsIn K mainGlobals "str" = some none)
    (gc_LONGEST : PySem.W.nsIn K mainGlobals "LONGEST" = some (some u_LONGEST))
    (rc_LONGEST : RelV (.int 12) u_LONGEST)
    (gc_LONGEST_NUMBER : PySem.W.nsIn K mainGlobals "LONGEST_NUMBER" = some (some u_LONGEST_NUMBER))
    (rc_LONGEST_NUMBER : RelV (.int 7) u_LONGEST_NUMBER)
    (gc_MOST_NUMBER : PySem.W.nsIn K mainGlobals "MOST_NUMBER" = some (some u_MOST_NUMBER))
    (rc_MOST_NUMBER : RelV (.int 1000000) u_MOST_NUMBER)
    (gc_SIGNS : PySem.W.nsIn K mainGlobals "SIGNS" = some (some u_SIGNS))
    (rc_SIGNS : RelV (.str "{}();,:=+-*<") u_SIGNS)
    (hlaw : ∀ ns : List Int, ns.length ≤ 63 → F_law [rolD (ns.map PyData.int)] = .ok (.bool true)) :
    ∃ fd : FuncData, (∀ (s : Shared) (v : Value), BindsTo s fd ⟨[v], []⟩ [("script", v)]) ∧ ∀ base : Heap, K.In base → base.Ns mainGlobals mg → FnOk P w K mg base (L2.CX P w) 8 fa fd ["script"] (spL K) := by
  have e := hfa.symm.trans (PySem.W.mg_of X G af_law)
  cases e
  have ox_BadText : OexC K C_BadText := ⟨⟨_, _, _, _, _, _, _, _, _, _, _, _, _, _, _, xL_BadText, rv_BadText⟩, sa_BadText, eC_BadText, tC_BadText, kC_BadText⟩
  have sx_BadText : SupTxt K mg P C_BadText I_BadText "BadText.__init__" (defArgs i_BadText) (defBody i_BadText) (defScope i_BadText) _ "self" := ⟨ox_BadText, ⟨_, _, _, _, _, _, _, _, _, _, _, _, _, _, _, _, _, _, _, rfl, li_BadText, ci_BadText, lc_BadText, v2_BadText, fl_BadText_, ll_BadText⟩, oex_cls ox_BadText, mC_BadText, PySem.W.mg_none_of X G zsuper, st, su_BadText, ve_BadText, hP, ⟨_, rfl, rfl⟩⟩
  have T_BadText : ErrTx K mg P "BadText" ["self", "line", "column", "reason"] ["line", "column", "reason"] C_BadText I_BadText _ := ⟨ox_BadText, ai_BadText, ti_BadText, PySem.W.mg_of X G aC_BadText, .all (fun us hl => match us, hl with | [_, _, _, _], _ => rfl), fun w base => fn_supA (k := 0) sx_BadText si_BadText (spE_len rfl) spE_self (fun _ _ _ => rfl) (fun _ _ _ => ⟨_, rfl⟩) (fun _ => rfl) (fun _ _ _ _ _ _ _ _ _ h => ⟨_, pv 3, spE_arg 3 h⟩) fun cd cc A outer s H vs Q E h => ⟨_, pss_cons (ps_ost (pv 0) pe_str) (pss_cons (ps_ost (pv 0) (pv 1)) (pss_cons (ps_ost (pv 0) (pv 2)) (pss_one (ps_ost (pv 0) (pv 3))))), ost3 ox_BadText nl_BadText nfline_BadText nfcolumn_BadText nfreason_BadText _ h⟩, ⟨ga_BadText, gg_BadText, eC_BadText, hC_BadText⟩, fun f hf => by
    simp only [List.mem_cons, List.not_mem_nil, or_false] at hf
    rcases hf with rfl | rfl | rfl
    · exact nfline_BadText
    · exact nfcolumn_BadText
    · exact nfreason_BadText⟩
  have ox_OutOfRange : OexC K C_OutOfRange := ⟨⟨_, _, _, _, _, _, _, _, _, _, _, _, _, _, _, xL_OutOfRange, rv_OutOfRange⟩, sa_OutOfRange, eC_OutOfRange, tC_OutOfRange, kC_OutOfRange⟩
  have sx_OutOfRange : SupTxt K mg P C_OutOfRange I_OutOfRange "OutOfRange.__init__" (defArgs i_OutOfRange) (defBody i_OutOfRange) (defScope i_OutOfRange) _ "self" := ⟨ox_OutOfRange, ⟨_, _, _, _, _, _, _, _, _, _, _, _, _, _, _, _, _, _, _, rfl, li_OutOfRange, ci_OutOfRange, lc_OutOfRange, v2_OutOfRange, fl_OutOfRange_, ll_OutOfRange⟩, oex_cls ox_OutOfRange, mC_OutOfRange, PySem.W.mg_none_of X G zsuper, st, su_OutOfRange, ve_OutOfRange, hP, ⟨_, rfl, rfl⟩⟩
  have T_OutOfRange : ErrTx K mg P "OutOfRange" ["self", "value"] ["value"] C_OutOfRange I_OutOfRange _ := ⟨ox_OutOfRange, ai_OutOfRange, ti_OutOfRange, PySem.W.mg_of X G aC_OutOfRange, .all (fun us hl => match us, hl with | [_, _], _ => rfl), fun w base => fn_sup (k := 0) sx_OutOfRange si_OutOfRange (spE_len rfl) spE_self (fun _ _ _ => rfl) (fun _ _ _ => ⟨_, rfl⟩) fun cd cc A outer s H vs Q E h => ⟨_, pss_cons (ps_ost (pv 0) pe_str) (pss_one (ps_ost (pv 0) (pv 1))), ost1 ox_OutOfRange nl_OutOfRange nfvalue_OutOfRange _ h⟩, ⟨ga_OutOfRange, gg_OutOfRange, eC_OutOfRange, hC_OutOfRange⟩, fun f hf => by
    simp only [List.mem_cons, List.not_mem_nil, or_false] at hf
    subst hf
    exact nfvalue_OutOfRange
   ⟩
  have F_is_letter := fun_mk (st := s_is_letter) lf_is_letter cf_is_letter kf_is_letter
  have b_is_letter := F_is_letter.binds (ps := ["character"]) fun _ _ _ _ _ _ us hl => match us, hl with | [_], _ => rfl
  have F_is_any_letter := fun_mk (st := s_is_any_letter) lf_is_any_letter cf_is_any_letter kf_is_any_letter
  have b_is_any_letter := F_is_any_letter.binds (ps := ["character"]) fun _ _ _ _ _ _ us hl => match us, hl with | [_], _ => rfl
  have F_is_digit := fun_mk (st := s_is_digit) lf_is_digit cf_is_digit kf_is_digit
  have b_is_digit := F_is_digit.binds (ps := ["character"]) fun _ _ _ _ _ _ us hl => match us, hl with | [_], _ => rfl
  have F_is_name := fun_mk (st := s_is_name) lf_is_name cf_is_name kf_is_name
  have b_is_name := F_is_name.binds (ps := ["text"]) fun _ _ _ _ _ _ us hl => match us, hl with | [_], _ => rfl
  have F_run_of_digits := fun_mk (st := s_run_of_digits) lf_run_of_digits cf_run_of_digits kf_run_of_digits
  have b_run_of_digits := F_run_of_digits.binds (ps := ["line", "start"]) fun _ _ _ _ _ _ us hl => match us, hl with | [_, _], _ => rfl
  have F_run_of_letters := fun_mk (st := s_run_of_letters) lf_run_of_letters cf_run_of_letters kf_run_of_letters
  have b_run_of_letters := F_run_of_letters.binds (ps := ["line", "start"]) fun _ _ _ _ _ _ us hl => match us, hl with | [_, _], _ => rfl
  have F_number_of_digits := fun_mk (st := s_number_of_digits) lf_number_of_digits cf_number_of_digits kf_number_of_digits
  have b_number_of_digits := F_number_of_digits.binds (ps := ["digits"]) fun _ _ _ _ _ _ us hl => match us, hl with | [_], _ => rfl
  have F_token_at := fun_mk (st := s_token_at) lf_token_at cf_token_at kf_token_at
  have b_token_at := F_token_at.binds (ps := ["line", "at"]) fun _ _ _ _ _ _ us hl => match us, hl with | [_, _], _ => rfl
  have F_scan_line := fun_mk (st := s_scan_line) lf_scan_line cf_scan_line kf_scan_line
  have b_scan_line := F_scan_line.binds (ps := ["line", "number", "found"]) fun _ _ _ _ _ _ us hl => match us, hl with | [_, _, _], _ => rfl
  have F_scan := fun_mk (st := s_scan) lf_scan cf_scan kf_scan
  have b_scan := F_scan.binds (ps := ["text"]) fun _ _ _ _ _ _ us hl => match us, hl with | [_], _ => rfl
  have F_tokens_of := fun_mk (st := s_tokens_of) lf_tokens_of cf_tokens_of kf_tokens_of
  have b_tokens_of := F_tokens_of.binds (ps := ["text"]) fun _ _ _ _ _ _ us hl => match us, hl with | [_], _ => rfl
  have F__law_cell := fun_mk (st := s__law_cell) lf__law_cell cf__law_cell kf__law_cell
  have b__law_cell := F__law_cell.binds (ps := ["script", "k"]) fun _ _ _ _ _ _ us hl => match us, hl with | [_, _], _ => rfl
  have F__law_draw := fun_mk (st := s__law_draw) lf__law_draw cf__law_draw kf__law_draw
  have b__law_draw := F__law_draw.binds (ps := ["cell", "limits"]) fun _ _ _ _ _ _ us hl => match us, hl with | [_, _], _ => rfl
  have F__law_name := fun_mk (st := s__law_name) lf__law_name cf__law_name kf__law_name
  have b__law_name := F__law_name.binds (ps := ["cell", "size"]) fun _ _ _ _ _ _ us hl => match us, hl with | [_, _], _ => rfl
  have F__law_token := fun_mk (st := s__law_token) lf__law_token cf__law_token kf__law_token
  have b__law_token := F__law_token.binds (ps := ["cell"]) fun _ _ _ _ _ _ us hl => match us, hl with | [_], _ => rfl
  have F__law_after := fun_mk (st := s__law_after) lf__law_after cf__law_after kf__law_after
  have b__law_after := F__law_after.binds (ps := ["line", "column", "text"]) fun _ _ _ _ _ _ us hl => match us, hl with | [_, _, _], _ => rfl
  have F__law_gap := fun_mk (st := s__law_gap) lf__law_gap cf__law_gap kf__law_gap
  have b__law_gap := F__law_gap.binds (ps := ["cell"]) fun _ _ _ _ _ _ us hl => match us, hl with | [_], _ => rfl
  have F__law_told := fun_mk (st := s__law_told) lf__law_told cf__law_told kf__law_told
  have b__law_told := F__law_told.binds (ps := ["text"]) fun _ _ _ _ _ _ us hl => match us, hl with | [_], _ => rfl
  have F__law_good := fun_mk (st := s__law_good) lf__law_good cf__law_good kf__law_good
  have b__law_good := F__law_good.binds (ps := ["text"]) fun _ _ _ _ _ _ us hl => match us, hl with | [_], _ => rfl
  have F_law := fun_mk (st := s_law) lf_law cf_law kf_law
  have b_law := F_law.binds (ps := ["script"]) fun _ _ _ _ _ _ us hl => match us, hl with | [_], _ => rfl
  let T : TX K mg P w := ⟨_, _, F_is_letter, PySem.W.mg_of X G af_is_letter, b_is_letter,
    _, _, F_is_any_letter, PySem.W.mg_of X G af_is_any_letter, b_is_any_letter,
    _, _, F_is_digit, PySem.W.mg_of X G af_is_digit, b_is_digit,
    _, _, F_is_name, PySem.W.mg_of X G af_is_name, b_is_name,
    _, _, F_run_of_digits, PySem.W.mg_of X G af_run_of_digits, b_run_of_digits,
    _, _, F_run_of_letters, PySem.W.mg_of X G af_run_of_letters, b_run_of_letters,
    _, _, F_number_of_digits, PySem.W.mg_of X G af_number_of_digits, b_number_of_digits,
    _, _, F_token_at, PySem.W.mg_of X G af_token_at, b_token_at,
    _, _, F_scan_line, PySem.W.mg_of X G af_scan_line, b_scan_line,
    _, _, F_scan, PySem.W.mg_of X G af_scan, b_scan,
    _, _, F_tokens_of, PySem.W.mg_of X G af_tokens_of, b_tokens_of,
    _, _, F__law_cell, PySem.W.mg_of X G af__law_cell, b__law_cell,
    _, _, F__law_draw, PySem.W.mg_of X G af__law_draw, b__law_draw,
    _, _, F__law_name, PySem.W.mg_of X G af__law_name, b__law_name,
    _, _, F__law_token, PySem.W.mg_of X G af__law_token, b__law_token,
    _, _, F__law_after, PySem.W.mg_of X G af__law_after, b__law_after,
    _, _, F__law_gap, PySem.W.mg_of X G af__law_gap, b__law_gap,
    _, _, F__law_told, PySem.W.mg_of X G af__law_told, b__law_told,
    _, _, F__law_good, PySem.W.mg_of X G af__law_good, b__law_good,
    _, _, F_law, PySem.W.mg_of X G af_law, b_law,
    C_BadText, I_BadText, _, T_BadText,
    C_OutOfRange, I_OutOfRange, _, T_OutOfRange,
    C_TrickError,
    PySem.W.mg_of X G aC_BadText, exm_cons (PySem.W.mg_of X G aC_BadText) (PySem.W.exm_ref eC_BadText hC_BadText tC_BadText em_BadText_BadText) (exm_cons (PySem.W.mg_of X G aC_OutOfRange) (PySem.W.exm_ref eC_BadText hC_BadText tC_BadText em_OutOfRange_BadText) (exm_nil)),
    ⟨T_BadText.xf, cl_BadText_, spg, tkg, mo_BadText⟩,
    PySem.W.mg_of X G aC_OutOfRange,
    PySem.W.mg_of X G aC_TrickError,
    kit_ref is_BadText_OutOfRange hC_OutOfRange tC_OutOfRange (fun z => by rw [ne_BadText_OutOfRange] at z; exact z),
    kit_ref is_BadText_TrickError hC_TrickError tC_TrickError (fun _ => rfl),
    kit_typ ve_BadText,
    PySem.W.mg_none_of X G z_ValueError,
    PySem.W.mg_none_of X G z_abs,
    PySem.W.mg_none_of X G z_bool,
    PySem.W.mg_none_of X G z_int,
    PySem.W.mg_none_of X G z_isinstance,
    PySem.W.mg_none_of X G z_len,
    PySem.W.mg_none_of X G z_max,
    PySem.W.mg_none_of X G z_min,
    PySem.W.mg_none_of X G z_range,
    PySem.W.mg_none_of X G z_str,
    ⟨_, PySem.W.mg_of X G gc_LONGEST, rc_LONGEST⟩,
    ⟨_, PySem.W.mg_of X G gc_LONGEST_NUMBER, rc_LONGEST_NUMBER⟩,
    ⟨_, PySem.W.mg_of X G gc_MOST_NUMBER, rc_MOST_NUMBER⟩,
    ⟨_, PySem.W.mg_of X G gc_SIGNS, rc_SIGNS⟩⟩
  exact ⟨PySem.W.fnOf "law" "law" (defArgs s_law) (defBody s_law) (defScope s_law) .none kV_law dc_law pm_law an_law cd_law ct_law, fun s v => .of_eq rfl, fun base _ _ => (ok_law T).imp (law_imp hlaw)⟩
end DL
open PySem PySem.W PyProof.Rows
set_option maxHeartbeats 0 in
theorem PySem.Challenge.cw_trickbook_k01_first_faulty_token_holds : PySem.Challenge.rw_trickbook_k01_first_faulty_token.Holds := by
  w_on; o_law; k_head; (case hw => w_witness2)
  k_fill
  refine L2.walk_of (l := PySem.Challenge.rw_trickbook_k01_first_faulty_token) (n := 63) (k := 8) (x := "script") (CX := fun w => L2.CX PySem.Challenge.pw_trickbook_k01_first_faulty_token w) (sp := fun w => DL.spL _) rfl (by decide) rfl ⟨rfl, by decide, by decide⟩ (fun w h Y => PySem.W.kIn_of Y) ?F (fun _ _ a ns hl _ hS => ⟨a, ns, rfl, hl, hS, fun _ => rfl⟩) (fun _ H s e s' => DL.cx_no H s e s')
  case F =>
    intro w mg fa h KX G hmg
    refine' DL.all_mk (by decide +kernel) KX G hmg ?aC_TrickError ?aC_BadText ?aC_OutOfRange ?xL_BadText ?rv_BadText ?sa_BadText ?ga_BadText ?gg_BadText ?nl_BadText ?nfline_BadText ?nfcolumn_BadText ?nfreason_BadText ?ai_BadText ?ti_BadText ?li_BadText ?ci_BadText ?lc_BadText ?v2_BadText ?fl_BadText_ ?ll_BadText ?kC_BadText ?eC_BadText ?tC_BadText ?hC_BadText ?mC_BadText ?su_BadText ?ve_BadText ?xL_OutOfRange ?rv_OutOfRange ?sa_OutOfRange ?ga_OutOfRange ?gg_OutOfRange ?nl_OutOfRange ?nfvalue_OutOfRange ?ai_OutOfRange ?ti_OutOfRange ?li_OutOfRange ?ci_OutOfRange ?lc_OutOfRange ?v2_OutOfRange ?fl_OutOfRange_ ?ll_OutOfRange ?kC_OutOfRange ?eC_OutOfRange ?tC_OutOfRange ?hC_OutOfRange ?mC_OutOfRange ?su_OutOfRange ?ve_OutOfRange ?st ?zsuper ?em_BadText_BadText ?em_OutOfRange_BadText ?cl_BadText_ ?mo_BadText ?spg ?tkg ?tC_TrickError ?hC_TrickError ?is_BadText_OutOfRange ?ne_BadText_OutOfRange ?is_BadText_TrickError ?af_is_letter ?lf_is_letter ?cf_is_letter ?kf_is_letter ?af_is_any_letter ?lf_is_any_letter ?cf_is_any_letter ?kf_is_any_letter ?af_is_digit ?lf_is_digit ?cf_is_digit ?kf_is_digit ?af_is_name ?lf_is_name ?cf_is_name ?kf_is_name ?af_run_of_digits ?lf_run_of_digits ?cf_run_of_digits ?kf_run_of_digits ?af_run_of_letters ?lf_run_of_letters ?cf_run_of_letters ?kf_run_of_letters ?af_number_of_digits ?lf_number_of_digits ?cf_number_of_digits ?kf_number_of_digits ?af_token_at ?lf_token_at ?cf_token_at ?kf_token_at ?af_scan_line ?lf_scan_line ?cf_scan_line ?kf_scan_line ?af_scan ?lf_scan ?cf_scan ?kf_scan ?af_tokens_of ?lf_tokens_of ?cf_tokens_of ?kf_tokens_of ?af__law_cell ?lf__law_cell ?cf__law_cell ?kf__law_cell ?af__law_draw ?lf__law_draw ?cf__law_draw ?kf__law_draw ?af__law_name ?lf__law_name ?cf__law_name ?kf__law_name ?af__law_token ?lf__law_token ?cf__law_token ?kf__law_token ?af__law_after ?lf__law_after ?cf__law_after ?kf__law_after ?af__law_gap ?lf__law_gap ?cf__law_gap ?kf__law_gap ?af__law_told ?lf__law_told ?cf__law_told ?kf__law_told ?af__law_good ?lf__law_good ?cf__law_good ?kf__law_good ?af_law ?lf_law ?cf_law ?kf_law ?z_ValueError ?z_abs ?z_bool ?z_int ?z_isinstance ?z_len ?z_max ?z_min ?z_range ?z_str ?gc_LONGEST ?rc_LONGEST ?gc_LONGEST_NUMBER ?rc_LONGEST_NUMBER ?gc_MOST_NUMBER ?rc_MOST_NUMBER ?gc_SIGNS ?rc_SIGNS DL.law_plain_k01
    (case aC_TrickError => k_is)
    (case aC_BadText => k_is)
    (case aC_OutOfRange => k_is)
    (case xL_BadText => k_is)
    (case rv_BadText => decide +kernel)
    (case sa_BadText => k_is)
    (case ga_BadText => k_is)
    (case gg_BadText => k_is)
    (case nl_BadText => k_is)
    (case nfline_BadText => k_is)
    (case nfcolumn_BadText => k_is)
    (case nfreason_BadText => k_is)
    (case ai_BadText => k_is)
    (case ti_BadText => k_is)
    (case li_BadText => k_is)
    (case ci_BadText => k_is)
    (case lc_BadText => k_is)
    (case v2_BadText => rfl)
    (case fl_BadText_ => decide +kernel)
    (case ll_BadText => k_is)
    (case kC_BadText => k_is)
    (case eC_BadText => k_is)
    (case tC_BadText => k_is)
    (case hC_BadText => k_is)
    (case mC_BadText => k_is)
    (case su_BadText => ks_is)
    (case ve_BadText => k_is)
    (case xL_OutOfRange => k_is)
    (case rv_OutOfRange => decide +kernel)
    (case sa_OutOfRange => k_is)
    (case ga_OutOfRange => k_is)
    (case gg_OutOfRange => k_is)
    (case nl_OutOfRange => k_is)
    (case nfvalue_OutOfRange => k_is)
    (case ai_OutOfRange => k_is)
    (case ti_OutOfRange => k_is)
    (case li_OutOfRange => k_is)
    (case ci_OutOfRange => k_is)
    (case lc_OutOfRange => k_is)
    (case v2_OutOfRange => rfl)
    (case fl_OutOfRange_ => decide +kernel)
    (case ll_OutOfRange => k_is)
    (case kC_OutOfRange => k_is)
    (case eC_OutOfRange => k_is)
    (case tC_OutOfRange => k_is)
    (case hC_OutOfRange => k_is)
    (case mC_OutOfRange => k_is)
    (case su_OutOfRange => ks_is)
    (case ve_OutOfRange => k_is)
    (case st => k_is)
    (case zsuper => k_is)
    (case em_BadText_BadText => first | k_is | rfl)
    (case em_OutOfRange_BadText => first | k_is | rfl)
    (case cl_BadText_ => k_is)
    (case mo_BadText => k_is)
    (case spg => k_is)
    (case tkg => k_is)
    (case tC_TrickError => k_is)
    (case hC_TrickError => k_is)
    (case is_BadText_OutOfRange => first | k_is | rfl)
    (case ne_BadText_OutOfRange => decide +kernel)
    (case is_BadText_TrickError => first | k_is | rfl)
    (case af_is_letter => k_is)
    (case lf_is_letter => k_is)
    (case cf_is_letter => k_is)
    (case kf_is_letter => k_is)
    (case af_is_any_letter => k_is)
    (case lf_is_any_letter => k_is)
    (case cf_is_any_letter => k_is)
    (case kf_is_any_letter => k_is)
    (case af_is_digit => k_is)
    (case lf_is_digit => k_is)
    (case cf_is_digit => k_is)
    (case kf_is_digit => k_is)
    (case af_is_name => k_is)
    (case lf_is_name => k_is)
    (case cf_is_name => k_is)
    (case kf_is_name => k_is)
    (case af_run_of_digits => k_is)
    (case lf_run_of_digits => k_is)
    (case cf_run_of_digits => k_is)
    (case kf_run_of_digits => k_is)
    (case af_run_of_letters => k_is)
    (case lf_run_of_letters => k_is)
    (case cf_run_of_letters => k_is)
    (case kf_run_of_letters => k_is)
    (case af_number_of_digits => k_is)
    (case lf_number_of_digits => k_is)
    (case cf_number_of_digits => k_is)
    (case kf_number_of_digits => k_is)
    (case af_token_at => k_is)
    (case lf_token_at => k_is)
    (case cf_token_at => k_is)
    (case kf_token_at => k_is)
    (case af_scan_line => k_is)
    (case lf_scan_line => k_is)
    (case cf_scan_line => k_is)
    (case kf_scan_line => k_is)
    (case af_scan => k_is)
    (case lf_scan => k_is)
    (case cf_scan => k_is)
    (case kf_scan => k_is)
    (case af_tokens_of => k_is)
    (case lf_tokens_of => k_is)
    (case cf_tokens_of => k_is)
    (case kf_tokens_of => k_is)
    (case af__law_cell => k_is)
    (case lf__law_cell => k_is)
    (case cf__law_cell => k_is)
    (case kf__law_cell => k_is)
    (case af__law_draw => k_is)
    (case lf__law_draw => k_is)
    (case cf__law_draw => k_is)
    (case kf__law_draw => k_is)
    (case af__law_name => k_is)
    (case lf__law_name => k_is)
    (case cf__law_name => k_is)
    (case kf__law_name => k_is)
    (case af__law_token => k_is)
    (case lf__law_token => k_is)
    (case cf__law_token => k_is)
    (case kf__law_token => k_is)
    (case af__law_after => k_is)
    (case lf__law_after => k_is)
    (case cf__law_after => k_is)
    (case kf__law_after => k_is)
    (case af__law_gap => k_is)
    (case lf__law_gap => k_is)
    (case cf__law_gap => k_is)
    (case kf__law_gap => k_is)
    (case af__law_told => k_is)
    (case lf__law_told => k_is)
    (case cf__law_told => k_is)
    (case kf__law_told => k_is)
    (case af__law_good => k_is)
    (case lf__law_good => k_is)
    (case cf__law_good => k_is)
    (case kf__law_good => k_is)
    (case af_law => k_is)
    (case lf_law => k_is)
    (case cf_law => k_is)
    (case kf_law => k_is)
    (case z_ValueError => k_is)
    (case z_abs => k_is)
    (case z_bool => k_is)
    (case z_int => k_is)
    (case z_isinstance => k_is)
    (case z_len => k_is)
    (case z_max => k_is)
    (case z_min => k_is)
    (case z_range => k_is)
    (case z_str => k_is)
    (case gc_LONGEST => k_is)
    (case rc_LONGEST => exact ⟨_, rfl⟩)
    (case gc_LONGEST_NUMBER => k_is)
    (case rc_LONGEST_NUMBER => exact ⟨_, rfl⟩)
    (case gc_MOST_NUMBER => k_is)
    (case rc_MOST_NUMBER => exact ⟨_, rfl⟩)
    (case gc_SIGNS => k_is)
    (case rc_SIGNS => exact ⟨_, rfl⟩)
