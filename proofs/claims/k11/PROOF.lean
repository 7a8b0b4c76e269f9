import PyProof.Rows.All
import Wide.All
import OpenK.AllK
import Wide.FinOn
import HandS.ForMost
import HandS.ForExc
import HandS.TryMany
import HandS.ExcInit
import HandS.ExcField
import HandS.Conv
import HandS.Zip
import HandS.SortInts
import HandS.Flow
import HandS.TupAny
import HandS.TupLen
import HandS.Deep
import HandS.TupLe
import HandS.TupMul
import HandS.Wide
import KE.KExcSuper
import HandS.IsInst
import HandS.Codes
import HandS.ExcIs
import HandS.DictComp
import HandS.Style
import HandS.TupSets
import PyProof.Rows.Range3
import KE.DataCmp
import HandS.Text
import HandS.RaiseMore
import KE.KExcIs
import KE.LtSeq
import PySem.Challenge.RW_trickbook_k11_riffles
set_option Elab.async false
set_option linter.all false
set_option maxRecDepth 100000
set_option maxHeartbeats 4000000
/-! The data layer over HandS: a canonical reading of an expression by a plain function on data. -/
namespace DL
open PySem PySem.Spec PyProof.Rows L2

abbrev D := PyData
inductive Rs (α : Type) where
  | ok (a : α)
  | er (c : Str) (fs : List (Str × D))
  | no
def Rs.bind {α β : Type} (x : Rs α) (f : α → Rs β) : Rs β := match x with
  | .ok a => f a
  | .er c fs => .er c fs
  | .no => .no
def Rs.map {α β : Type} (f : α → β) (x : Rs α) : Rs β := match x with
  | .ok a => .ok (f a)
  | .er c fs => .er c fs
  | .no => .no
@[simp] theorem Rs.bind_ok {α β : Type} (a : α) (f : α → Rs β) : (Rs.ok a).bind f = f a := Eq.trans (Eq.refl _) rfl
@[simp] theorem Rs.bind_er {α β : Type} (c : Str) (fs : List (Str × D)) (f : α → Rs β) : (Rs.er c fs).bind f = .er c fs := Eq.trans (Eq.refl _) rfl
@[simp] theorem Rs.bind_no {α β : Type} (f : α → Rs β) : (Rs.no : Rs α).bind f = .no := Eq.trans (Eq.refl _) rfl
@[simp] theorem Rs.map_ok {α β : Type} (a : α) (f : α → β) : (Rs.ok a).map f = .ok (f a) := Eq.trans (Eq.refl _) rfl
@[simp] theorem Rs.map_er {α β : Type} (c : Str) (fs : List (Str × D)) (f : α → β) : (Rs.er c fs).map f = .er c fs := Eq.trans (Eq.refl _) rfl
@[simp] theorem Rs.map_no {α β : Type} (f : α → β) : (Rs.no : Rs α).map f = .no := Eq.trans (Eq.refl _) rfl

abbrev Env := List (Option D)
inductive Out where
  | nx (γ : Env)
  | rt (d : D)
  | bk (γ : Env)
  | ct (γ : Env)
  | er (c : Str) (fs : List (Str × D)) (γ : Env)
  | no

/-! ### what a value stands for -/
def kD : Key → D
  | .inl i => .int i
  | .inr x => .str x
mutual
inductive Dn (K : PySem.W.Frag) (H : Hp) : V → D → Prop
  | non : Dn K H .non .none
  | bl (b : Bool) : Dn K H (.bl b) (.bool b)
  | int (i : Int) : Dn K H (.int i) (.int i)
  | str (x : Str) : Dn K H (.str x) (.str x)
  | lst {a : Addr} {xs : List V} {ds : List D} : Rd H a (.lst xs) → DnAll K H xs ds → Dn K H (.ref a) (.list ds)
  | tup {a : Addr} {xs : List V} {ds : List D} : H a = some (.tup xs) → DnAll K H xs ds → Dn K H (.ref a) (.tuple ds)
  | dic {a : Addr} {kvs : List (Key × V)} {es : List (D × D)} : H a = some (.dK kvs) → DnKv K H kvs es → Dn K H (.ref a) (.dict es)
  | dct {a : Addr} {kvs : List (List Key × V)} {es : List (D × D)} : H a = some (.dT kvs) → DnKt K H kvs es → Dn K H (.ref a) (.dict es)
  /-- locked dicts: told by a True ahead -/
  | lkk {a : Addr} {od : Obj} {kvs : List (Key × V)} {es : List (D × D)} : H a = some (.frz od (.dK kvs)) → DnKv K H kvs es → Dn K H (.ref a) (.dict [(.bool true, .dict es)])
  | lkt {a : Addr} {od : Obj} {kvs : List (List Key × V)} {es : List (D × D)} : H a = some (.frz od (.dT kvs)) → DnKt K H kvs es → Dn K H (.ref a) (.dict [(.bool true, .dict es)])
  /-- a range that is kept in a name: told by a False ahead -/
  | rng {a : Addr} {lo hi : Int} : H a = some (.rng lo hi) → Dn K H (.ref a) (.dict [(.bool false, .tuple [.int lo, .int hi])])
  /-- a thing told by its place only -/
  | adr {a : Addr} : Dn K H (.ref a) (.dict [(.bool false, .int (a : Nat))])
  /-- a list that is only read (the script) -/
  | rol {a : Addr} {xs : List V} {ds : List D} : SqL K H a xs → DnAll K H xs ds → Dn K H (.ref a) (.dict [(.none, .list ds)])
inductive DnAll (K : PySem.W.Frag) (H : Hp) : List V → List D → Prop
  | nil : DnAll K H [] []
  | cons {v : V} {vs : List V} {d : D} {ds : List D} : Dn K H v d → DnAll K H vs ds → DnAll K H (v :: vs) (d :: ds)
inductive DnKv (K : PySem.W.Frag) (H : Hp) : List (Key × V) → List (D × D) → Prop
  | nil : DnKv K H [] []
  | cons {k : Key} {v : V} {kvs : List (Key × V)} {d : D} {es : List (D × D)} : Dn K H v d → DnKv K H kvs es → DnKv K H ((k, v) :: kvs) ((kD k, d) :: es)
/-- tuples as keys -/
inductive DnKt (K : PySem.W.Frag) (H : Hp) : List (List Key × V) → List (D × D) → Prop
  | nil : DnKt K H [] []
  | cons {k : List Key} {v : V} {kvs : List (List Key × V)} {d : D} {es : List (D × D)} : Dn K H v d → DnKt K H kvs es → DnKt K H ((k, v) :: kvs) ((.tuple (k.map kD), d) :: es)
end

theorem same_rd {H H' : Hp} {a : Addr} {u : HO} (e : Same H H') (h : Rd H a u) : Rd H' a u := by
  rcases h with h | ⟨o, h⟩
  · exact .inl (e _ _ h)
  · exact .inr ⟨o, e _ _ h⟩
theorem same_t {K : PySem.W.Frag} {H H' : Hp} {a : Addr} {xs : List V} (e : Same H H') (h : SqT K H a xs) : SqT K H' a xs := by
  rcases h with h | h
  · exact .inl (same_rd e h)
  · exact .inr h
theorem same_new {H : Hp} {p : Addr} {o : HO} (h : H p = none) : Same H (upd H p o) := fun b u e => by
  rw [upd_ne (ne_of_none e h)]
  exact e
mutual
theorem Dn.mono {K : PySem.W.Frag} {H H' : Hp} (e : Same H H') : ∀ {v : V} {d : D}, Dn K H v d → Dn K H' v d
  | _, _, .non => .non
  | _, _, .bl b => .bl b
  | _, _, .int i => .int i
  | _, _, .str x => .str x
  | _, _, .lst s a => .lst (same_rd e s) (DnAll.mono e a)
  | _, _, .tup s a => .tup (e _ _ s) (DnAll.mono e a)
  | _, _, .dic s a => .dic (e _ _ s) (DnKv.mono e a)
  | _, _, .dct s a => .dct (e _ _ s) (DnKt.mono e a)
  | _, _, .lkk s a => .lkk (e _ _ s) (DnKv.mono e a)
  | _, _, .lkt s a => .lkt (e _ _ s) (DnKt.mono e a)
  | _, _, .rng s => .rng (e _ _ s)
  | _, _, .adr => .adr
  | _, _, .rol s a => .rol (e.seq s) (DnAll.mono e a)
theorem DnAll.mono {K : PySem.W.Frag} {H H' : Hp} (e : Same H H') : ∀ {v : List V} {d : List D}, DnAll K H v d → DnAll K H' v d
  | _, _, .nil => .nil
  | _, _, .cons h t => .cons (Dn.mono e h) (DnAll.mono e t)
theorem DnKv.mono {K : PySem.W.Frag} {H H' : Hp} (e : Same H H') : ∀ {v : List (Key × V)} {d : List (D × D)}, DnKv K H v d → DnKv K H' v d
  | _, _, .nil => .nil
  | _, _, .cons h t => .cons (Dn.mono e h) (DnKv.mono e t)
theorem DnKt.mono {K : PySem.W.Frag} {H H' : Hp} (e : Same H H') : ∀ {v : List (List Key × V)} {d : List (D × D)}, DnKt K H v d → DnKt K H' v d
  | _, _, .nil => .nil
  | _, _, .cons h t => .cons (Dn.mono e h) (DnKt.mono e t)
end
mutual
theorem Dn.dp {K : PySem.W.Frag} {H : Hp} : ∀ {v : V} {d : D}, Dn K H v d → PyData.canLay0 d = true → Dp K H v d
  | _, _, .non, _ => .non
  | _, _, .bl b, _ => .bl b
  | _, _, .int i, _ => .int i
  | _, _, .str x, _ => .str x
  | _, _, .lst s a, h => .lst (.inl s) (DnAll.dp a (by simpa [PyData.canLay0] using h))
  | _, _, .tup s a, h => .tup (.inl (.inl s)) (DnAll.dp a (by simpa [PyData.canLay0] using h))
  | _, _, .dic s a, h => by simp [PyData.canLay0] at h
  | _, _, .dct s a, h => by simp [PyData.canLay0] at h
  | _, _, .lkk s a, h => by simp [PyData.canLay0] at h
  | _, _, .lkt s a, h => by simp [PyData.canLay0] at h
  | _, _, .rng s, h => by simp [PyData.canLay0] at h
  | _, _, .adr, h => by simp [PyData.canLay0] at h
  | _, _, .rol s a, h => by simp [PyData.canLay0] at h
theorem DnAll.dp {K : PySem.W.Frag} {H : Hp} : ∀ {v : List V} {d : List D}, DnAll K H v d → PyData.canLayAll0 d = true → DpAll K H v d
  | _, _, .nil, _ => .nil
  | _, _, .cons a t, h => by
    simp only [PyData.canLayAll0, Bool.and_eq_true] at h
    exact .cons (Dn.dp a h.1) (DnAll.dp t h.2)
end
section
variable {K : PySem.W.Frag} {H : Hp} {xs ys : List V} {ds es : List D}
theorem DnAll.length : ∀ {xs : List V} {ds : List D}, DnAll K H xs ds → xs.length = ds.length
  | _, _, .nil => rfl
  | _, _, .cons _ t => by rw [List.length_cons, List.length_cons, DnAll.length t]
theorem DnAll.get : ∀ {xs : List V} {ds : List D} {i : Nat} {d : D}, DnAll K H xs ds → ds[i]? = some d → ∃ x, xs[i]? = some x ∧ Dn K H x d
  | _, _, _, _, .nil, h => by simp at h
  | _, _, 0, _, .cons a _, h => by simp at h; subst h; exact ⟨_, rfl, a⟩
  | _, _, i + 1, d, .cons _ t, h => by
    obtain ⟨x, h1, h2⟩ := DnAll.get (i := i) (d := d) t (by simpa using h)
    exact ⟨x, by simpa using h1, h2⟩
theorem DnAll.getV : ∀ {xs : List V} {ds : List D} {i : Nat} {x : V}, DnAll K H xs ds → xs[i]? = some x → ∃ d, ds[i]? = some d ∧ Dn K H x d
  | _, _, _, _, .nil, h => by simp at h
  | _, _, 0, _, .cons a _, h => by simp at h; subst h; exact ⟨_, rfl, a⟩
  | _, _, i + 1, x, .cons _ t, h => by
    obtain ⟨d, h1, h2⟩ := DnAll.getV (i := i) (x := x) t (by simpa using h)
    exact ⟨d, by simpa using h1, h2⟩
theorem DnAll.append : ∀ {xs ys : List V} {ds es : List D}, DnAll K H xs ds → DnAll K H ys es → DnAll K H (xs ++ ys) (ds ++ es)
  | _, _, _, _, .nil, h => h
  | _, _, _, _, .cons a t, h => .cons a (DnAll.append t h)
theorem DnAll.take : ∀ {xs : List V} {ds : List D} (n : Nat), DnAll K H xs ds → DnAll K H (xs.take n) (ds.take n)
  | _, _, 0, _ => by simpa using DnAll.nil
  | _, _, _ + 1, .nil => by simpa using DnAll.nil
  | _, _, n + 1, .cons a t => by simpa using DnAll.cons a (DnAll.take n t)
theorem DnAll.drop : ∀ {xs : List V} {ds : List D} (n : Nat), DnAll K H xs ds → DnAll K H (xs.drop n) (ds.drop n)
  | _, _, 0, h => h
  | _, _, _ + 1, .nil => by simpa using DnAll.nil
  | _, _, n + 1, .cons _ t => by simpa using DnAll.drop n t
theorem DnAll.set {v : V} {d : D} (h : Dn K H v d) : ∀ {xs : List V} {ds : List D} (n : Nat), DnAll K H xs ds → DnAll K H (xs.set n v) (ds.set n d)
  | _, _, _, .nil => .nil
  | _, _, 0, .cons _ t => .cons h t
  | _, _, n + 1, .cons a t => .cons a (DnAll.set h n t)
theorem DnAll.dropLast (h : DnAll K H xs ds) : DnAll K H xs.dropLast ds.dropLast := by
  rw [List.dropLast_eq_take, List.dropLast_eq_take, h.length]
  exact h.take _
theorem DnAll.reverse : ∀ {xs : List V} {ds : List D}, DnAll K H xs ds → DnAll K H xs.reverse ds.reverse
  | _, _, .nil => .nil
  | _, _, .cons a t => by
    rw [List.reverse_cons, List.reverse_cons]
    exact DnAll.append (DnAll.reverse t) (.cons a .nil)
theorem DnAll.rep (h : DnAll K H xs ds) : ∀ k : Nat, DnAll K H (List.replicate k xs).flatten (List.replicate k ds).flatten
  | 0 => .nil
  | k + 1 => by
    rw [List.replicate_succ, List.replicate_succ, List.flatten_cons, List.flatten_cons]
    exact DnAll.append h (DnAll.rep h k)
theorem DnAll.ints : ∀ {xs : List V} {ns : List Int}, DnAll K H xs (ns.map PyData.int) → xs = ns.map V.int
  | _, [], h => by cases h; rfl
  | _, n :: ns, h => by
    cases h with
    | cons a t => cases a; rw [DnAll.ints t]; rfl
theorem DnAll.of_ints : ∀ (ns : List Int), DnAll K H (ns.map V.int) (ns.map PyData.int)
  | [] => .nil
  | n :: ns => .cons (.int n) (DnAll.of_ints ns)
theorem DnAll.strs : ∀ {xs : List V} {ns : List Str}, DnAll K H xs (ns.map PyData.str) → xs = ns.map V.str
  | _, [], h => by cases h; rfl
  | _, n :: ns, h => by
    cases h with
    | cons a t => cases a; rw [DnAll.strs t]; rfl
end

/-! ### heaps: B what is kept for ever, H the heap -/
/-- something stands there, and it is no tuple -/
def NT (H : Hp) (a : Addr) : Prop := ∃ o, H a = some o ∧ ∀ xs, o ≠ .tup xs
theorem NT.ne {H : Hp} {a : Addr} (h : NT H a) : H a ≠ none := by
  obtain ⟨o, e, _⟩ := h
  rw [e]
  exact fun z => nomatch z
theorem NT.mono {H H' : Hp} {a : Addr} (s : Same H H') (h : NT H a) : NT H' a := by
  obtain ⟨o, e, n⟩ := h
  exact ⟨o, s a o e, n⟩
theorem NT.upd {H : Hp} {a p : Addr} {o : HO} (z : a ≠ p) (h : NT H a) : NT (upd H p o) a := by
  obtain ⟨u, e, n⟩ := h
  exact ⟨u, by rw [upd_ne z]; exact e, n⟩
theorem nt_lst {H : Hp} {a : Addr} {xs : List V} (h : H a = some (.lst xs)) : NT H a := ⟨_, h, fun _ z => nomatch z⟩
structure Ext (B H B' H' : Hp) : Prop where
  b : Same B B'
  h : Same H H'
  s : Same B' H'
  n : ∀ a, B a = none → NT H a → B' a = none
theorem Ext.refl {B H : Hp} (h : Same B H) : Ext B H B H := ⟨.refl _, .refl _, h, fun _ h _ => h⟩
theorem Ext.trans {B H B1 H1 B2 H2 : Hp} (x : Ext B H B1 H1) (y : Ext B1 H1 B2 H2) : Ext B H B2 H2 :=
  ⟨x.b.trans y.b, x.h.trans y.h, y.s, fun a h1 h2 => y.n a (x.n a h1 h2) (h2.mono x.h)⟩
theorem same_none {B H : Hp} (s : Same B H) {p : Addr} (h : H p = none) : B p = none := s.free h
theorem Ext.new {B H : Hp} {p : Addr} {o : HO} (s : Same B H) (h : H p = none) : Ext B H (upd B p o) (upd H p o) := by
  refine ⟨same_new (same_none s h), same_new h, fun a u e => ?_, fun a h1 h2 => ?_⟩
  · by_cases q : a = p
    · subst q; rw [upd_same] at e ⊢; exact e
    · rw [upd_ne q] at e ⊢; exact s a u e
  · have : a ≠ p := fun z => by subst z; exact h2.ne h
    rw [upd_ne this]; exact h1
theorem Ext.hid {B H : Hp} {p : Addr} {o : HO} (s : Same B H) (h : H p = none) : Ext B H B (upd H p o) :=
  ⟨.refl _, same_new h, s.trans (same_new h), fun _ h _ => h⟩
/-- a hidden new object is shown -/
theorem Ext.shown {B H B' H' : Hp} {p : Addr} {o : HO} (x : Ext B H B' H') (h : H p = none) (hb : B' p = none) (hp : H' p = some o) : Ext B H (upd B' p o) H' := by
  refine ⟨x.b.trans (same_new hb), x.h, fun a u e => ?_, fun a h1 h2 => ?_⟩
  · by_cases q : a = p
    · subst q; rw [upd_same] at e; rw [hp]; exact e
    · rw [upd_ne q] at e; exact x.s a u e
  · have : a ≠ p := fun z => by subst z; exact h2.ne h
    rw [upd_ne this]; exact x.n a h1 h2

/-- the value at level k: down to depth k its lists may be another's own -/
def DnF (K : PySem.W.Frag) (B H : Hp) : Nat → V → D → Prop
  | 0, v, d => Dn K B v d
  | k + 1, v, d => Dn K B v d ∨ ∃ p xs ds, v = .ref p ∧ d = .list ds ∧ H p = some (.lst xs) ∧ Paired (DnF K B H k) xs ds
section
variable {K : PySem.W.Frag} {B H B' H' : Hp}
theorem DnAll.paired : ∀ {xs : List V} {ds : List D}, DnAll K B xs ds → Paired (Dn K B) xs ds
  | _, _, .nil => .nil
  | _, _, .cons a t => .cons a (DnAll.paired t)
theorem DnAll.of_paired : ∀ {xs : List V} {ds : List D}, Paired (Dn K B) xs ds → DnAll K B xs ds
  | _, _, .nil => .nil
  | _, _, .cons a t => .cons a (DnAll.of_paired t)
theorem DnF.of {k : Nat} {v : V} {d : D} (h : Dn K B v d) : DnF K B H k v d := by
  cases k with
  | zero => exact h
  | succ k => exact .inl h
theorem DnF.mono (x : Ext B H B' H') : ∀ {k : Nat} {v : V} {d : D}, DnF K B H k v d → DnF K B' H' k v d
  | 0, _, _, h => Dn.mono x.b h
  | k + 1, _, _, h => by
    rcases h with h | ⟨p, xs, ds, h1, h2, h3, h4⟩
    · exact .inl (Dn.mono x.b h)
    · exact .inr ⟨p, xs, ds, h1, h2, x.h _ _ h3, Paired.mapP h4 fun _ _ => DnF.mono x⟩
theorem DnF.flu (s : Same B H) : ∀ {k : Nat} {v : V} {d : D}, DnF K B H k v d → Dn K H v d
  | 0, _, _, h => Dn.mono s h
  | k + 1, _, _, h => by
    rcases h with h | ⟨p, xs, ds, rfl, rfl, h3, h4⟩
    · exact Dn.mono s h
    · exact .lst (.inl h3) (.of_paired (Paired.mapP h4 fun _ _ => DnF.flu s))
/-- a list's items, one level down -/
theorem DnF.items (s : Same B H) {k : Nat} {v : V} {ds : List D} (h : DnF K B H k v (.list ds)) : ∃ p xs, v = .ref p ∧ Rd H p (.lst xs) ∧ Paired (DnF K B H (k - 1)) xs ds := by
  cases k with
  | zero =>
    cases h with
    | lst r a => exact ⟨_, _, rfl, same_rd s r, Paired.mapP a.paired fun _ _ h => h⟩
  | succ k =>
    rcases h with h | ⟨p, xs, ds', rfl, e, h3, h4⟩
    · cases h with
      | lst r a => exact ⟨_, _, rfl, same_rd s r, Paired.mapP a.paired fun _ _ h => .of h⟩
    · cases e
      exact ⟨_, _, rfl, .inl h3, h4⟩
theorem DnF.tups (s : Same B H) {k : Nat} {v : V} {ds : List D} (h : DnF K B H k v (.tuple ds)) : ∃ p xs, v = .ref p ∧ SqT K H p xs ∧ DnAll K B xs ds := by
  have h' : Dn K B v (.tuple ds) := by
    cases k with
    | zero => exact h
    | succ k =>
      rcases h with h | ⟨p, xs, ds', rfl, e, h3, h4⟩
      · exact h
      · cases e
  cases h' with
  | tup r a => exact ⟨_, _, rfl, .inl (.inl (s _ _ r)), a⟩
theorem kv_none {K : PySem.W.Frag} {H : Hp} {kvs : List (Key × V)} {d : D} {es : List (D × D)} (h : DnKv K H kvs ((.none, d) :: es)) : False := by
  generalize e : ((PyData.none, d) :: es : List (D × D)) = l at h
  cases h with
  | nil => cases e
  | @cons k _ _ _ _ _ _ =>
    injection e with e1 _
    injection e1 with e2 _
    cases k <;> cases e2
/-- the script and its like, as data -/
abbrev rolD (ds : List D) : D := .dict [(.none, .list ds)]
theorem DnF.rol (s : Same B H) {k : Nat} {v : V} {ds : List D} (h : DnF K B H k v (rolD ds)) : ∃ p xs, v = .ref p ∧ SqL K B p xs ∧ SqL K H p xs ∧ DnAll K B xs ds := by
  have h' : Dn K B v (rolD ds) := by
    cases k with
    | zero => exact h
    | succ k =>
      rcases h with h | ⟨p, xs, ds', rfl, e, h3, h4⟩
      · exact h
      · cases e
  cases h' with
  | rol r a => exact ⟨_, _, rfl, r, s.seq r, a⟩
  | dic r a => exact (kv_none a).elim
  | dct r a => cases a
theorem DnF.int {k : Nat} {v : V} {i : Int} (h : DnF K B H k v (.int i)) : v = .int i := by
  cases k with
  | zero => cases h; rfl
  | succ k =>
    rcases h with h | ⟨p, xs, ds', rfl, e, h3, h4⟩
    · cases h; rfl
    · cases e
theorem DnF.bool {k : Nat} {v : V} {i : Bool} (h : DnF K B H k v (.bool i)) : v = .bl i := by
  cases k with
  | zero => cases h; rfl
  | succ k =>
    rcases h with h | ⟨p, xs, ds', rfl, e, h3, h4⟩
    · cases h; rfl
    · cases e
theorem DnF.str {k : Nat} {v : V} {i : Str} (h : DnF K B H k v (.str i)) : v = .str i := by
  cases k with
  | zero => cases h; rfl
  | succ k =>
    rcases h with h | ⟨p, xs, ds', rfl, e, h3, h4⟩
    · cases h; rfl
    · cases e
theorem DnF.none {k : Nat} {v : V} (h : DnF K B H k v .none) : v = .non := by
  cases k with
  | zero => cases h; rfl
  | succ k =>
    rcases h with h | ⟨p, xs, ds', rfl, e, h3, h4⟩
    · cases h; rfl
    · cases e
end

/-! ### the ground: what a def's body stands on -/
structure Gd where
  K : PySem.W.Frag
  mg : Str → Option Value
  W : WX
  B : Hp
  H : Hp
  x : Option (Nat × Addr × Addr × List (Str × V)) := none
/-- a slot at level k: 0 kept for ever, 1 a list of its own -/
def SR (K : PySem.W.Frag) (own : Addr → Prop) (B H : Hp) : Nat → V → D → Prop
  | 0, v, d => Dn K B v d
  | 1, v, d => ∃ p xs ds, v = .ref p ∧ d = .list ds ∧ own p ∧ H p = some (.lst xs) ∧ DnAll K B xs ds
  /- a list of its own, of lists of its own -/
  | 2, v, d => ∃ p qs dss, v = .ref p ∧ d = .list (dss.map PyData.list) ∧ own p ∧ H p = some (.lst (qs.map V.ref)) ∧ qs.Nodup ∧ p ∉ qs ∧ Paired (fun q (ds : List D) => own q ∧ ∃ ys, H q = some (.lst ys) ∧ DnAll K B ys ds) qs dss
  /- a dict of its own, its keys ints or texts; tuples of these -/
  | 3, v, d => ∃ p kvs es, v = .ref p ∧ d = .dict es ∧ own p ∧ H p = some (.dK kvs) ∧ DnKv K B kvs es
  | 4, v, d => ∃ p kvs es, v = .ref p ∧ d = .dict es ∧ own p ∧ H p = some (.dT kvs) ∧ DnKt K B kvs es
  | _, _, _ => False
structure EnvR (G : Gd) (ow : List Nat) (B H : Hp) (σ : L2.St) (γ : Env) : Prop where
  s : Same B H
  e : Ext G.B G.H B H
  len : γ.length = σ.length
  x : ∀ t, G.x = some t → σ[t.1]? = some (some (.ref t.2.1)) ∧ H t.2.2.1 = some (.xd t.2.2.2)
  v : ∃ own : Nat → Addr → Prop, (∀ i a, own i a → B a = none ∧ G.H a = none ∧ NT H a) ∧ (∀ i j a, own i a → own j a → i = j) ∧
    ∀ i d, γ[i]? = some (some d) → ∃ v, σ[i]? = some (some v) ∧ SR G.K (own i) B H (ow.getD i 0) v d
section
variable {G : Gd} {ow : List Nat} {B H B' H' : Hp} {σ : L2.St} {γ : Env}
theorem SR.mono {K : PySem.W.Frag} {own : Addr → Prop} {k : Nat} {v : V} {d : D} (x : Ext B H B' H') (h : SR K own B H k v d) : SR K own B' H' k v d := by
  match k, h with
  | 0, h => exact Dn.mono x.b h
  | 1, ⟨p, xs, ds, h1, h2, h3, h4, h5⟩ => exact ⟨p, xs, ds, h1, h2, h3, x.h _ _ h4, h5.mono x.b⟩
  | 2, ⟨p, qs, dss, h1, h2, h3, h4, h5, h6, h7⟩ => exact ⟨p, qs, dss, h1, h2, h3, x.h _ _ h4, h5, h6, Paired.mapP h7 fun _ _ ⟨z1, ys, z2, z3⟩ => ⟨z1, ys, x.h _ _ z2, z3.mono x.b⟩⟩
  | 3, ⟨p, xs, ds, h1, h2, h3, h4, h5⟩ => exact ⟨p, xs, ds, h1, h2, h3, x.h _ _ h4, h5.mono x.b⟩
  | 4, ⟨p, xs, ds, h1, h2, h3, h4, h5⟩ => exact ⟨p, xs, ds, h1, h2, h3, x.h _ _ h4, h5.mono x.b⟩
theorem SR.monoB {K : PySem.W.Frag} {own own' : Addr → Prop} {k : Nat} {v : V} {d : D} (s : Same B B') (ho : ∀ a, own a → own' a) (h : SR K own B H k v d) : SR K own' B' H k v d := by
  match k, h with
  | 0, h => exact Dn.mono s h
  | 1, ⟨p, xs, ds, h1, h2, h3, h4, h5⟩ => exact ⟨p, xs, ds, h1, h2, ho _ h3, h4, h5.mono s⟩
  | 2, ⟨p, qs, dss, h1, h2, h3, h4, h5, h6, h7⟩ => exact ⟨p, qs, dss, h1, h2, ho _ h3, h4, h5, h6, Paired.mapP h7 fun _ _ ⟨z1, ys, z2, z3⟩ => ⟨ho _ z1, ys, z2, z3.mono s⟩⟩
  | 3, ⟨p, xs, ds, h1, h2, h3, h4, h5⟩ => exact ⟨p, xs, ds, h1, h2, ho _ h3, h4, h5.mono s⟩
  | 4, ⟨p, xs, ds, h1, h2, h3, h4, h5⟩ => exact ⟨p, xs, ds, h1, h2, ho _ h3, h4, h5.mono s⟩
theorem SR.keepH {K : PySem.W.Frag} {own : Addr → Prop} {k : Nat} {v : V} {d : D} (hk : ∀ a, own a → H' a = H a) (h : SR K own B H k v d) : SR K own B H' k v d := by
  match k, h with
  | 0, h => exact h
  | 1, ⟨p, xs, ds, h1, h2, h3, h4, h5⟩ => exact ⟨p, xs, ds, h1, h2, h3, (hk p h3).trans h4, h5⟩
  | 2, ⟨p, qs, dss, h1, h2, h3, h4, h5, h6, h7⟩ => exact ⟨p, qs, dss, h1, h2, h3, (hk p h3).trans h4, h5, h6, Paired.mapP h7 fun q _ ⟨z1, ys, z2, z3⟩ => ⟨z1, ys, (hk q z1).trans z2, z3⟩⟩
  | 3, ⟨p, xs, ds, h1, h2, h3, h4, h5⟩ => exact ⟨p, xs, ds, h1, h2, h3, (hk p h3).trans h4, h5⟩
  | 4, ⟨p, xs, ds, h1, h2, h3, h4, h5⟩ => exact ⟨p, xs, ds, h1, h2, h3, (hk p h3).trans h4, h5⟩
theorem paired_maps {α β γ δ : Type} {F : α → β → Prop} {G : γ → δ → Prop} (f : α → γ) (g : β → δ) (h : ∀ a b, F a b → G (f a) (g b)) : ∀ {xs : List α} {ys : List β}, Paired F xs ys → Paired G (xs.map f) (ys.map g)
  | _, _, .nil => .nil
  | _, _, .cons a t => .cons (h _ _ a) (paired_maps f g h t)
theorem SR.kept {K : PySem.W.Frag} {own : Addr → Prop} {k : Nat} {v : V} {d : D} (s : Same B B') (hb : ∀ a, own a → B' a = H a) (h : SR K own B H k v d) : Dn K B' v d := by
  match k, h with
  | 0, h => exact Dn.mono s h
  | 1, ⟨p, xs, ds, h1, h2, h3, h4, h5⟩ =>
    rw [h1, h2]
    exact .lst (.inl ((hb p h3).trans h4)) (h5.mono s)
  | 2, ⟨p, qs, dss, h1, h2, h3, h4, h5, h6, h7⟩ =>
    rw [h1, h2]
    exact .lst (.inl ((hb p h3).trans h4)) (.of_paired (paired_maps V.ref PyData.list (fun q ds ⟨z1, ys, z2, z3⟩ => .lst (.inl ((hb q z1).trans z2)) (z3.mono s)) h7))
  | 3, ⟨p, xs, ds, h1, h2, h3, h4, h5⟩ =>
    rw [h1, h2]
    exact .dic ((hb p h3).trans h4) (h5.mono s)
  | 4, ⟨p, xs, ds, h1, h2, h3, h4, h5⟩ =>
    rw [h1, h2]
    exact .dct ((hb p h3).trans h4) (h5.mono s)
theorem SR.dnf {K : PySem.W.Frag} {own : Addr → Prop} {k : Nat} {v : V} {d : D} (hk : k ≤ 2) (h : SR K own B H k v d) : DnF K B H k v d := by
  match k, h with
  | 0, h => exact h
  | 1, ⟨p, xs, ds, h1, h2, _, h4, h5⟩ => exact .inr ⟨p, xs, ds, h1, h2, h4, Paired.mapP h5.paired fun _ _ h => h⟩
  | 2, ⟨p, qs, dss, h1, h2, h3, h4, h5, h6, h7⟩ => exact .inr ⟨p, _, _, h1, h2, h4, paired_maps V.ref PyData.list (fun q ds ⟨z1, ys, z2, z3⟩ => .inr ⟨q, ys, ds, rfl, rfl, z2, Paired.mapP z3.paired fun _ _ h => h⟩) h7⟩
theorem EnvR.mono (I : EnvR G ow B H σ γ) (x : Ext B H B' H') : EnvR G ow B' H' σ γ := by
  obtain ⟨own, h1, h2, h3⟩ := I.v
  refine ⟨x.s, I.e.trans x, I.len, fun t z => ⟨(I.x t z).1, x.h _ _ (I.x t z).2⟩, own, fun i a h => ?_, h2, fun i d h => ?_⟩
  · obtain ⟨q1, q2, q3⟩ := h1 i a h
    exact ⟨x.n a q1 q3, q2, q3.mono x.h⟩
  · obtain ⟨v, e, r⟩ := h3 i d h
    exact ⟨v, e, r.mono x⟩
theorem ow_set_self (ow : List Nat) (i k : Nat) (h : i < ow.length ∨ k = 0) : (ow.set i k).getD i 0 = k := by
  rw [List.getD_eq_getElem?_getD]
  by_cases q : i < ow.length
  · rw [List.getElem?_set_self q]; rfl
  · rw [List.getElem?_eq_none (by rw [List.length_set]; omega)]
    rcases h with h | h
    · exact absurd h q
    · subst h; rfl
theorem ow_set_ne (ow : List Nat) {i j : Nat} (k : Nat) (h : j ≠ i) : (ow.set i k).getD j 0 = ow.getD j 0 := by
  rw [List.getD_eq_getElem?_getD, List.getElem?_set_ne (Ne.symm h), ← List.getD_eq_getElem?_getD]
open Classical in
/-- a slot is kept for ever from now on -/
theorem EnvR.frz (I : EnvR G ow B H σ γ) (i : Nat) : ∃ B', Same B B' ∧ EnvR G (ow.set i 0) B' H σ γ := by
  obtain ⟨own, h1, h2, h3⟩ := I.v
  have sB : Same B (fun a => if own i a then H a else B a) := fun a u e => by
    have : ¬ own i a := fun z => by rw [(h1 i a z).1] at e; cases e
    show (if own i a then H a else B a) = _
    rw [if_neg this]
    exact e
  have sH : Same (fun a => if own i a then H a else B a) H := fun a u e => by
    dsimp only at e
    split at e
    · exact e
    · exact I.s a u e
  refine ⟨fun a => if own i a then H a else B a, sB, sH, ⟨I.e.b.trans sB, I.e.h, sH, fun a z1 z2 => ?_⟩, I.len, I.x, fun j a => j ≠ i ∧ own j a, fun j a h => ?_, fun j k a h h' => h2 j k a h.2 h'.2, fun j d h => ?_⟩
  · show (if own i a then H a else B a) = _
    rw [if_neg fun z => z2.ne (h1 i a z).2.1]
    exact I.e.n a z1 z2
  · obtain ⟨c1, c2, c3⟩ := h1 j a h.2
    refine ⟨?_, c2, c3⟩
    show (if own i a then H a else B a) = _
    rw [if_neg fun z => h.1 (h2 j i a h.2 z)]
    exact c1
  · obtain ⟨v, e, r⟩ := h3 j d h
    refine ⟨v, e, ?_⟩
    by_cases z : j = i
    · subst z
      rw [ow_set_self _ _ _ (.inr rfl)]
      exact r.kept sB fun a ha => if_pos ha
    · rw [ow_set_ne _ _ z]
      exact r.monoB sB fun a ha => ⟨z, ha⟩
/-- everything is kept for ever -/
theorem EnvR.all (I : EnvR G ow B H σ γ) : ∀ n : Nat, ∃ B', Same B B' ∧ EnvR G (((List.range n).foldl (fun o i => o.set i 0) ow)) B' H σ γ
  | 0 => ⟨B, .refl _, I⟩
  | n + 1 => by
    obtain ⟨B1, s1, I1⟩ := EnvR.all I n
    obtain ⟨B2, s2, I2⟩ := I1.frz n
    refine ⟨B2, s1.trans s2, ?_⟩
    rw [List.range_succ, List.foldl_append]
    exact I2
theorem foldl_set_getD (ow : List Nat) (n j : Nat) : ((List.range n).foldl (fun o i => o.set i 0) ow).getD j 0 = if j < n then 0 else ow.getD j 0 := by
  induction n with
  | zero => simp
  | succ n ih =>
    rw [List.range_succ, List.foldl_append]
    show ((((List.range n).foldl (fun o i => o.set i 0) ow)).set n 0).getD j 0 = _
    rw [List.getD_eq_getElem?_getD]
    by_cases h : j = n
    · subst h
      rw [if_pos (by omega)]
      by_cases q : j < ((List.range j).foldl (fun o i => o.set i 0) ow).length
      · rw [List.getElem?_set_self q]; rfl
      · rw [List.getElem?_eq_none (by rw [List.length_set]; omega)]; rfl
    · rw [List.getElem?_set_ne (Ne.symm h), ← List.getD_eq_getElem?_getD, ih]
      by_cases q : j < n
      · rw [if_pos q, if_pos (by omega)]
      · rw [if_neg q, if_neg (by omega)]
theorem EnvR.reow {ow' : List Nat} (I : EnvR G ow B H σ γ) (h : ∀ j, j < γ.length → ow'.getD j 0 = ow.getD j 0) : EnvR G ow' B H σ γ := by
  obtain ⟨own, h1, h2, h3⟩ := I.v
  refine ⟨I.s, I.e, I.len, I.x, own, h1, h2, fun i d e => ?_⟩
  rw [h i (by
    by_cases z : i < γ.length
    · exact z
    · rw [List.getElem?_eq_none (by omega)] at e; cases e)]
  exact h3 i d e
theorem EnvR.allF (I : EnvR G ow B H σ γ) : ∃ B', Same B B' ∧ EnvR G [] B' H σ γ := by
  obtain ⟨B', s, I'⟩ := I.all γ.length
  refine ⟨B', s, I'.reow fun j hj => ?_⟩
  rw [foldl_set_getD, if_pos hj]
  rfl
/-- slots are forgotten -/
theorem EnvR.sub {σ' : L2.St} {γ' : Env} (I : EnvR G ow B H σ γ) (hx : ∀ t, G.x = some t → σ'[t.1]? = σ[t.1]?) (hl : γ'.length = σ'.length) (h : ∀ (i : Nat) d, γ'[i]? = some (some d) → γ[i]? = some (some d) ∧ ∀ v, σ[i]? = some (some v) → σ'[i]? = some (some v)) : EnvR G ow B H σ' γ' := by
  obtain ⟨own, h1, h2, h3⟩ := I.v
  refine ⟨I.s, I.e, hl, fun t z => ⟨(hx t z).trans (I.x t z).1, (I.x t z).2⟩, own, h1, h2, fun i d e => ?_⟩
  obtain ⟨e1, e2⟩ := h i d e
  obtain ⟨v, e3, r⟩ := h3 i d e1
  exact ⟨v, e2 v e3, r⟩
theorem EnvR.lt (I : EnvR G ow B H σ γ) {i : Nat} {d : D} (h : γ[i]? = some (some d)) : i < γ.length := by
  by_cases z : i < γ.length
  · exact z
  · rw [List.getElem?_eq_none (by omega)] at h; cases h
/-- a slot is given a value that is kept for ever -/
theorem EnvR.set (I : EnvR G ow B H σ γ) (i : Nat) (hx : G.x = none) {v : V} {d : D} (h : Dn G.K B v d) : EnvR G (ow.set i 0) B H (σ.set i (some v)) (γ.set i (some d)) := by
  obtain ⟨own, h1, h2, h3⟩ := I.v
  refine ⟨I.s, I.e, by rw [List.length_set, List.length_set, I.len], (fun t z => by rw [hx] at z; cases z), own, h1, h2, fun j e q => ?_⟩
  by_cases z : j = i
  · subst z
    have hj : j < γ.length := by
      by_cases y : j < γ.length
      · exact y
      · rw [List.getElem?_eq_none (by rw [List.length_set]; omega)] at q; cases q
    rw [List.getElem?_set_self hj] at q
    cases q
    refine ⟨v, List.getElem?_set_self (by rw [← I.len]; exact hj), ?_⟩
    rw [ow_set_self _ _ _ (.inr rfl)]
    exact h
  · rw [List.getElem?_set_ne (Ne.symm z)] at q
    obtain ⟨w, e1, r⟩ := h3 j e q
    refine ⟨w, by rw [List.getElem?_set_ne (Ne.symm z)]; exact e1, ?_⟩
    rw [ow_set_ne _ _ z]
    exact r
/-- a slot is given a new list of its own -/
theorem EnvR.setN (I : EnvR G ow B H σ γ) (i : Nat) (hx : G.x = none) (hi : i < ow.length) {B' H' : Hp} {p : Addr} {xs : List V} {ds : List D} (x : Ext B H B' H') (hp : H p = none) (hb : B' p = none) (hl : H' p = some (.lst xs)) (h : DnAll G.K B' xs ds) :
    EnvR G (ow.set i 1) B' H' (σ.set i (some (.ref p))) (γ.set i (some (.list ds))) := by
  have I' := I.mono x
  obtain ⟨own0, g1, g2, g3⟩ := I.v
  have hG : G.H p = none := by
    cases q : G.H p with
    | none => rfl
    | some o => rw [I.e.h p o q] at hp; cases hp
  refine ⟨I'.s, I'.e, by rw [List.length_set, List.length_set, I'.len], (fun t z => by rw [hx] at z; cases z), fun j a => if j = i then a = p else own0 j a, fun j a hj => ?_, fun j k a hj hk => ?_, fun j e q => ?_⟩
  · dsimp only at hj
    split at hj
    · subst hj
      exact ⟨hb, hG, nt_lst hl⟩
    · obtain ⟨c1, c2, c3⟩ := g1 j a hj
      exact ⟨x.n a c1 c3, c2, c3.mono x.h⟩
  · dsimp only at hj hk
    split at hj
    · rename_i e1
      split at hk
      · rename_i e2; rw [e1, e2]
      · subst hj
        exact absurd hp (g1 k a hk).2.2.ne
    · split at hk
      · subst hk
        exact absurd hp (g1 j a hj).2.2.ne
      · exact g2 j k a hj hk
  · by_cases z : j = i
    · subst z
      have hj : j < γ.length := by
        by_cases y : j < γ.length
        · exact y
        · rw [List.getElem?_eq_none (by rw [List.length_set]; omega)] at q; cases q
      rw [List.getElem?_set_self hj] at q
      cases q
      refine ⟨.ref p, List.getElem?_set_self (by rw [← I.len]; exact hj), ?_⟩
      rw [ow_set_self _ _ _ (.inl hi)]
      exact ⟨p, xs, ds, rfl, rfl, by dsimp only; rw [if_pos rfl], hl, h⟩
    · rw [List.getElem?_set_ne (Ne.symm z)] at q
      obtain ⟨w, e1, r⟩ := g3 j e q
      refine ⟨w, by rw [List.getElem?_set_ne (Ne.symm z)]; exact e1, ?_⟩
      rw [ow_set_ne _ _ z]
      have e5 : (fun a => if j = i then a = p else own0 j a) = own0 j := by
        funext a; rw [if_neg z]
      show SR G.K (fun a => if j = i then a = p else own0 j a) B' H' _ w e
      rw [e5]
      exact r.mono x
/-- the list of a slot of its own is written -/
theorem EnvR.wr (I : EnvR G ow B H σ γ) {i : Nat} {ds : List D} (hx : G.x = none) (hk : ow.getD i 0 = 1) (hg : γ[i]? = some (some (.list ds))) :
    ∃ p xs, σ[i]? = some (some (.ref p)) ∧ H p = some (.lst xs) ∧ DnAll G.K B xs ds ∧ ∀ ys es, DnAll G.K B ys es → EnvR G ow B (upd H p (.lst ys)) σ (γ.set i (some (.list es))) := by
  obtain ⟨own, h1, h2, h3⟩ := I.v
  obtain ⟨v, e, r⟩ := h3 i _ hg
  rw [hk] at r
  obtain ⟨p, xs, ds', rfl, q2, q3, q4, q5⟩ := r
  cases q2
  obtain ⟨b1, b2, b3⟩ := h1 i p q3
  refine ⟨p, xs, e, q4, q5, fun ys es hy => ?_⟩
  have sB : Same B (upd H p (.lst ys)) := fun a u z => by
    have : a ≠ p := fun y => by subst y; rw [b1] at z; cases z
    rw [upd_ne this]; exact I.s a u z
  refine ⟨sB, ⟨I.e.b, fun a u z => ?_, sB, I.e.n⟩, by rw [List.length_set, I.len], (fun t z => by rw [hx] at z; cases z), own, fun j a hj => ?_, h2, fun j d q => ?_⟩
  · have : a ≠ p := fun y => by subst y; rw [b2] at z; cases z
    rw [upd_ne this]; exact I.e.h a u z
  · obtain ⟨c1, c2, c3⟩ := h1 j a hj
    refine ⟨c1, c2, ?_⟩
    by_cases z : a = p
    · subst z; exact nt_lst upd_same
    · exact c3.upd z
  · by_cases z : j = i
    · subst z
      have hj : j < γ.length := I.lt hg
      rw [List.getElem?_set_self hj] at q
      cases q
      refine ⟨_, e, ?_⟩
      rw [hk]
      exact ⟨p, ys, es, rfl, rfl, q3, upd_same, hy⟩
    · rw [List.getElem?_set_ne (Ne.symm z)] at q
      obtain ⟨w, e1, r⟩ := h3 j d q
      refine ⟨w, e1, r.keepH fun a ha => upd_ne fun y => by subst y; exact z (h2 j i _ ha q3)⟩
end
end DL
set_option Elab.async false
set_option linter.all false
set_option maxRecDepth 100000
set_option maxHeartbeats 4000000
namespace DL
open PySem PySem.Spec PyProof.Rows L2

/-! ### the canonical readings -/
abbrev FR (G : Gd) (B' : Hp) : List (Str × V) → List (Str × D) → Prop := Paired fun (p : Str × V) (q : Str × D) => p.1 = q.1 ∧ Dn G.K B' p.2 q.2
def ErP (G : Gd) (σ : L2.St) (B H : Hp) (c : Str) (fs : List (Str × D)) : Prop :=
  ∀ C dd B' H' fs', Ext B H B' H' → G.mg c = some (.ref C) → H' dd = some (.xd fs') → FR G B' fs' fs → G.W (.ref C) (some dd) σ H'
def RsP {α : Type} (G : Gd) (σ : L2.St) (B H : Hp) (r : Rs α) (P : α → Prop) : Prop := match r with
  | .ok a => P a
  | .er c fs => ErP G σ B H c fs
  | .no => False
section
variable {G : Gd} {σ : L2.St} {B H B' H' : Hp} {α β : Type}
theorem RsP.bind {x : Rs α} {f : α → Rs β} {P : β → Prop} (h : RsP G σ B H (x.bind f) P) : RsP G σ B H x fun a => RsP G σ B H (f a) P := by
  cases x with
  | ok a => exact h
  | er c fs => exact h
  | no => exact h
theorem RsP.map {x : Rs α} {f : α → β} {P : β → Prop} (h : RsP G σ B H (x.map f) P) : RsP G σ B H x fun a => P (f a) := by
  cases x with
  | ok a => exact h
  | er c fs => exact h
  | no => exact h
theorem ErP.mono {c : Str} {fs : List (Str × D)} (x : Ext B H B' H') (h : ErP G σ B H c fs) : ErP G σ B' H' c fs := fun C dd B1 H1 fs' e h1 h2 h3 => h C dd B1 H1 fs' (x.trans e) h1 h2 h3
theorem RsP.mono {x : Rs α} {P Q : α → Prop} (e : Ext B H B' H') (h : RsP G σ B H x P) (hp : ∀ a, P a → Q a) : RsP G σ B' H' x Q := by
  cases x with
  | ok a => exact hp a h
  | er c fs => exact ErP.mono e h
  | no => exact h
theorem RsP.imp {x : Rs α} {P Q : α → Prop} (h : RsP G σ B H x P) (hp : ∀ a, P a → Q a) : RsP G σ B H x Q := by
  cases x with
  | ok a => exact hp a h
  | er c fs => exact h
  | no => exact h
end
def oR {α : Type} : Option α → Rs α
  | some a => .ok a
  | none => .no
@[simp] theorem oR_some {α : Type} (a : α) : oR (some a) = .ok a := Eq.trans (Eq.refl _) rfl
@[simp] theorem oR_none {α : Type} : oR (none : Option α) = .no := Eq.trans (Eq.refl _) rfl
theorem RsP.oR {G : Gd} {σ : L2.St} {B H : Hp} {α : Type} {x : Option α} {P : α → Prop} (h : RsP G σ B H (oR x) P) : ∃ a, x = some a ∧ P a := by
  cases x with
  | some a => exact ⟨a, rfl, h⟩
  | none => exact h.elim

/-- an expression, its value at level k -/
def cV (G : Gd) (ow : List Nat) (k : Nat) (f : Env → Rs D) : TE := fun σ H Q => ∃ B γ, EnvR G ow B H σ γ ∧ RsP G σ B H (f γ) fun d => ∀ v B' H', Ext B H B' H' → DnF G.K B' H' k v d → Q v H'
/-- an expression that makes a new list -/
def cN (G : Gd) (ow : List Nat) (f : Env → Rs (List D)) : TE := fun σ H Q => ∃ B γ, EnvR G ow B H σ γ ∧ RsP G σ B H (f γ) fun ds => ∀ p xs B' H', Ext B H B' H' → H p = none → B' p = none → H' p = some (.lst xs) → DnAll G.K B' xs ds → Q (.ref p) H'
def cT (G : Gd) (ow : List Nat) (f : Env → Rs Bool) : TT := fun σ H Q => ∃ B γ, EnvR G ow B H σ γ ∧ RsP G σ B H (f γ) fun b => ∀ B' H', Ext B H B' H' → Q b H'
/-- arguments, each at level k -/
def cA (G : Gd) (ow : List Nat) (k : Nat) (f : Env → Rs (List D)) : TA := fun σ H Q => ∃ B γ, EnvR G ow B H σ γ ∧ RsP G σ B H (f γ) fun ds => ∀ vs B' H', Ext B H B' H' → Paired (DnF G.K B' H' k) vs ds → Q vs H'
/-- a part of a slice -/
def cO (G : Gd) (ow : List Nat) (f : Env → Rs (Option Int)) : TO := fun σ H Q => ∃ B γ, EnvR G ow B H σ γ ∧ RsP G σ B H (f γ) fun o => ∀ B' H', Ext B H B' H' → Q o H'

section
variable {X : Cx} {e a b : Expr} {es : List Expr} {pos : Pos} {G : Gd} {ow : List Nat} {f g : Env → Rs D} {k : Nat}
theorem _root_.L2.PE.impD {t t' : TE} (h : PE X e t) (hi : ∀ σ H Q, t' σ H Q → t σ H Q) : PE X e t' := ⟨fun pins s σ H Q I q => h.run pins s σ H Q I (hi σ H Q q)⟩
theorem _root_.L2.PT.impD {t t' : TT} (h : PT X e t) (hi : ∀ σ H Q, t' σ H Q → t σ H Q) : PT X e t' := ⟨fun pins s σ H Q I q => h.run pins s σ H Q I (hi σ H Q q)⟩
theorem _root_.L2.PA.impD {t t' : TA} (h : PA X es t) (hi : ∀ σ H Q, t' σ H Q → t σ H Q) : PA X es t' := ⟨fun p pins s σ H Q I q => h.run p pins s σ H Q I (hi σ H Q q)⟩
theorem _root_.L2.PO.impD {e : Option Expr} {t t' : TO} (h : PO X e t) (hi : ∀ σ H Q, t' σ H Q → t σ H Q) : PO X e t' := ⟨fun pins s σ H Q I q => h.run pins s σ H Q I (hi σ H Q q)⟩
theorem w1 (h : PE X e (cV G ow 0 f)) : PE X e (cV G ow 1 f) := h.impD fun σ H Q ⟨B, γ, I, r⟩ => ⟨B, γ, I, r.imp fun d q v B' H' x hv => q v B' H' x (.of hv)⟩
def mkL : Rs (List D) → Rs D := Rs.map PyData.list
theorem e_of_n {f : Env → Rs (List D)} (h : PE X e (cN G ow f)) : PE X e (cV G ow 0 fun γ => (f γ).map PyData.list) := h.impD fun σ H Q ⟨B, γ, I, r⟩ => ⟨B, γ, I, r.map.imp fun ds q p xs B' H' x hp hb hl hd =>
  q (.ref p) _ H' (x.shown hp hb hl) (.lst (.inl upd_same) (hd.mono (same_new hb)))⟩
/-! ### names, constants -/
def gE (γ : Env) (i : Nat) : Rs D := match γ[i]? with
  | some (some d) => .ok d
  | _ => .no
theorem gE_some {γ : Env} {i : Nat} {d : D} (h : γ[i]? = some (some d)) : gE γ i = .ok d := by unfold gE; rw [h]
theorem RsP.gE {σ : L2.St} {B H : Hp} {γ : Env} {i : Nat} {P : D → Prop} (h : RsP G σ B H (gE γ i) P) : ∃ d, γ[i]? = some (some d) ∧ P d := by
  unfold DL.gE at h
  split at h
  · rename_i d e; exact ⟨d, e, h⟩
  · exact h.elim
/-- a name whose value is kept for ever -/
theorem d_var {x : Str} (i : Nat) (h0 : ow.getD i 0 = 0 := by rfl) (hN : X.N[i]? = some x := by rfl) (hv : Vis X.env.scope x := by first | exact Or.inl rfl | exact Or.inr (Or.inl rfl) | exact Or.inr (Or.inr rfl)) (hd : (x == ("__debug__" : Str)) = false := by decide) (hcd : (x == ("__classdict__" : Str)) = false := by decide) :
    PE X (.Name x pos) (cV G ow 0 fun γ => gE γ i) := (pe_var hN hv hd hcd).impD fun σ H Q ⟨B, γ, I, r⟩ => by
  obtain ⟨d, e, q⟩ := r.gE
  obtain ⟨own, h1, h2, h3⟩ := I.v
  obtain ⟨v, e1, r1⟩ := h3 i d e
  rw [h0] at r1
  exact ⟨v, e1, q v B H (.refl I.s) r1⟩
/-- any name, to be looked at -/
theorem f_var {x : Str} (i : Nat) (hk : ow.getD i 0 ≤ 1 := by decide) (hN : X.N[i]? = some x := by rfl) (hv : Vis X.env.scope x := by first | exact Or.inl rfl | exact Or.inr (Or.inl rfl) | exact Or.inr (Or.inr rfl)) (hd : (x == ("__debug__" : Str)) = false := by decide) (hcd : (x == ("__classdict__" : Str)) = false := by decide) :
    PE X (.Name x pos) (cV G ow 1 fun γ => gE γ i) := (pe_var hN hv hd hcd).impD fun σ H Q ⟨B, γ, I, r⟩ => by
  obtain ⟨d, e, q⟩ := r.gE
  obtain ⟨own, h1, h2, h3⟩ := I.v
  obtain ⟨v, e1, r1⟩ := h3 i d e
  refine ⟨v, e1, q v B H (.refl I.s) ?_⟩
  generalize ow.getD i 0 = k at r1 hk
  match k, r1 with
  | 0, r1 => exact .inl r1
  | 1, ⟨p, xs, ds, z1, z2, _, z4, z5⟩ => exact .inr ⟨p, xs, ds, z1, z2, z4, Paired.mapP z5.paired fun _ _ h => h⟩
/-- any name, to be looked at; its lists' lists too -/
theorem f_var2 {x : Str} (i : Nat) (hk : ow.getD i 0 = 2 := by rfl) (hN : X.N[i]? = some x := by rfl) (hv : Vis X.env.scope x := by first | exact Or.inl rfl | exact Or.inr (Or.inl rfl) | exact Or.inr (Or.inr rfl)) (hd : (x == ("__debug__" : Str)) = false := by decide) (hcd : (x == ("__classdict__" : Str)) = false := by decide) :
    PE X (.Name x pos) (cV G ow 2 fun γ => gE γ i) := (pe_var hN hv hd hcd).impD fun σ H Q ⟨B, γ, I, r⟩ => by
  obtain ⟨d, e, q⟩ := r.gE
  obtain ⟨own, h1, h2, h3⟩ := I.v
  obtain ⟨v, e1, r1⟩ := h3 i d e
  rw [hk] at r1
  exact ⟨v, e1, q v B H (.refl I.s) (r1.dnf (Nat.le_refl _))⟩
theorem d_c {v : V} {d : D} (h : PE X e (tC v)) (hd : ∀ B, Dn G.K B v d) : PE X e (cV G ow 0 fun _ => .ok d) := h.impD fun σ H Q ⟨B, γ, I, r⟩ => r v B H (.refl I.s) (hd B)
theorem d_int {i : Int} {j : Nat} : PE X (.Constant (.int i) j pos) (cV G ow 0 fun _ => .ok (.int i)) := d_c pe_int fun _ => .int _
theorem d_bl {i : Bool} {j : Nat} : PE X (.Constant (.bool i) j pos) (cV G ow 0 fun _ => .ok (.bool i)) := d_c pe_bl fun _ => .bl _
theorem d_non {j : Nat} : PE X (.Constant .none j pos) (cV G ow 0 fun _ => .ok .none) := d_c pe_non fun _ => .non
theorem d_str {i : Str} {j : Nat} : PE X (.Constant (.str i) j pos) (cV G ow 0 fun _ => .ok (.str i)) := d_c pe_str fun _ => .str _

/-! ### operations -/
@[simp] abbrev b1 {α : Type} (f : Env → Rs D) (F : D → Option α) : Env → Rs α := fun γ => (f γ).bind fun d => oR (F d)
@[simp] abbrev b2 {α : Type} (f g : Env → Rs D) (F : D → D → Option α) : Env → Rs α := fun γ => (f γ).bind fun d => (g γ).bind fun e => oR (F d e)
/-- what is asked of a two-place operation by values -/
structure HP (K : PySem.W.Frag) (r : R2) (P : D → D → D → Prop) : Prop where
  run : ∀ {B H : Hp} {x y : V} {d e z : D} {Q : VK}, Same B H → DnF K B H 1 x d → DnF K B H 1 y e → P d e z → (∀ v B' H', Ext B H B' H' → Dn K B' v z → Q v H') → r x y H Q
abbrev HR (K : PySem.W.Frag) (r : R2) (F : D → D → Option D) : Prop := HP K r fun d e z => F d e = some z
theorem d_op2 {r : R2} {F : D → D → Option D} (hr : HR G.K r F) (h : ∀ {ta tb : TE}, PE X a ta → PE X b tb → PE X e (tOp r ta tb)) (ha : PE X a (cV G ow 1 f)) (hb : PE X b (cV G ow 1 g)) : PE X e (cV G ow 0 (b2 f g F)) :=
  (h ha hb).impD fun σ H Q ⟨B, γ, I, q⟩ => ⟨B, γ, I, q.bind.imp fun d q v B1 H1 x1 hv => ⟨B1, γ, I.mono x1, q.bind.mono x1 fun e q u B2 H2 x2 hu => by
    obtain ⟨z, ez, q⟩ := q.oR
    exact hr.run x2.s (hv.mono x2) hu ez fun w B3 H3 x3 hw => q w B3 H3 ((x1.trans x2).trans x3) hw⟩⟩
theorem d_bin {op : Operator} {r : R2} {F : D → D → Option D} (hr : HR G.K r F) (ho : OpR X (binaryOp op) r) (ha : PE X a (cV G ow 1 f)) (hb : PE X b (cV G ow 1 g)) : PE X (.BinOp a op b pos) (cV G ow 0 (b2 f g F)) := d_op2 hr (fun h1 h2 => pe_op ho h1 h2) ha hb
theorem d_cmp {op : CmpOp} {r : R2} {F : D → D → Option D} (hr : HR G.K r F) (ho : OpR X (compareOp op) r) (hm : behindInMarks op b = false) (ha : PE X a (cV G ow 1 f)) (hb : PE X b (cV G ow 1 g)) : PE X (.Compare a [op] [b] pos) (cV G ow 0 (b2 f g F)) := d_op2 hr (fun h1 h2 => pe_cmpR ho h1 h2 hm) ha hb
theorem HP.or {K : PySem.W.Frag} {r1 r2 : R2} {P1 P2 : D → D → D → Prop} (h1 : HP K r1 P1) (h2 : HP K r2 P2) : HP K (fun x y H Q => r1 x y H Q ∨ r2 x y H Q) fun d e z => P1 d e z ∨ P2 d e z :=
  ⟨fun s hx hy hz q => hz.elim (fun hz => .inl (h1.run s hx hy hz q)) fun hz => .inr (h2.run s hx hy hz q)⟩
theorem HP.impP {K : PySem.W.Frag} {r : R2} {P P' : D → D → D → Prop} (h : HP K r P) (hi : ∀ d e z, P' d e z → P d e z) : HP K r P' := ⟨fun s hx hy hz q => h.run s hx hy (hi _ _ _ hz) q⟩

def iiD (C : Int → Int → Bool) (F : Int → Int → D) : D → D → Option D
  | .int i, .int j => if C i j then some (F i j) else none
  | _, _ => none
theorem iiD_some {C : Int → Int → Bool} {F : Int → Int → D} {d e z : D} (h : iiD C F d e = some z) : ∃ i j, d = .int i ∧ e = .int j ∧ C i j = true ∧ z = F i j := by
  unfold iiD at h
  split at h
  · rename_i i j
    split at h
    · rename_i hc
      cases h
      exact ⟨i, j, rfl, rfl, hc, rfl⟩
    · cases h
  · cases h
theorem hr_I {K : PySem.W.Frag} {C : Int → Int → Prop} {Cb : Int → Int → Bool} {g : Int → Int → V} {F : Int → Int → D} (hC : ∀ i j, Cb i j = true → C i j) (hg : ∀ B i j, Dn K B (g i j) (F i j)) : HR K (rI C g) (iiD Cb F) := by
  refine ⟨?_⟩; intro B H x y d e z Q s hx hy hz q
  obtain ⟨i, j, rfl, rfl, hc, rfl⟩ := iiD_some hz
  exact ⟨i, j, hx.int, hy.int, hC i j hc, q _ B H (.refl s) (hg B i j)⟩
theorem hr_I0 {K : PySem.W.Frag} {g : Int → Int → V} {F : Int → Int → D} (hg : ∀ B i j, Dn K B (g i j) (F i j)) : HR K (rI0 g) (iiD (fun _ _ => true) F) := by
  refine ⟨?_⟩; intro B H x y d e z Q s hx hy hz q
  obtain ⟨i, j, rfl, rfl, hc, rfl⟩ := iiD_some hz
  exact ⟨i, j, hx.int, hy.int, q _ B H (.refl s) (hg B i j)⟩

/-- the most items that a list, the most signs that a text has here -/
abbrev LIM : Nat := 1000000
theorem lim_le {n : Nat} (h : n ≤ LIM) : n ≤ sizeLine := Nat.le_trans h (by decide)
theorem lim_lt {n : Nat} (h : n < LIM) : n < sizeLine := Nat.lt_of_lt_of_le h (by decide)

/-! ### + -/
def rCatR : R2 := fun x y H Q => ∃ l b xs zs, x = .ref l ∧ y = .ref b ∧ Rd H l (.lst xs) ∧ Rd H b (.lst zs) ∧ xs.length + zs.length ≤ sizeLine ∧ ∀ p, H p = none → Q (.ref p) (upd H p (.lst (xs ++ zs)))
theorem Inv.rdM {pins : List (Addr × Obj)} {s : Shared} {σ : L2.St} {H : Hp} {l : Addr} {xs : List V} (I : Inv X pins σ H s) (h : Rd H l (.lst xs)) : xs.length ≤ sizeLine ∧ ∃ (its : List Value) (n : Nat), Vals xs its ∧ xs.length = its.length ∧ s.heap.get? l = some { cls := .type "list", data := .seq its.toArray n } := by
  obtain ⟨z, its, n, r, e⟩ := h.ok I.hok
  exact ⟨z, its, n, r, r.length, e⟩
theorem op_catR : OpR X (binaryOp .Add) rCatR := by
  intro pins s σ H x y v u Q I rx ry h
  obtain ⟨l, b, xs, zs, rfl, rfl, hH, hB, hz, q⟩ := h
  cases rx
  cases ry
  obtain ⟨z, its, n, r, hl, e⟩ := Inv.rdM I hH
  obtain ⟨z2, its2, n2, r2, hl2, e2⟩ := Inv.rdM I hB
  refine PySem.P.add_list e e2 ?_ (by rw [List.size_toArray, List.size_toArray]; omega)
  have ea : its.toArray ++ its2.toArray = (its ++ its2).toArray := by simp
  rw [ea]
  exact ⟨.ref _, _, I.lnew (t' := s.toks) (r.append r2) (by rw [List.length_append]; omega), rfl, q _ I.fresh⟩
def addI : D → D → Option D := iiD (fun _ _ => true) fun i j => .int (i + j)
def addS : D → D → Option D
  | .str x, .str y => if x.length + y.length ≤ LIM then some (.str (x ++ y)) else none
  | _, _ => none
def addL : D → D → Option D
  | .list xs, .list ys => if xs.length + ys.length ≤ LIM then some (.list (xs ++ ys)) else none
  | _, _ => none
def addT : D → D → Option D
  | .tuple xs, .tuple ys => if xs.length + ys.length ≤ LIM then some (.tuple (xs ++ ys)) else none
  | _, _ => none
def addB : D → D → Option D
  | .int i, .bool k => some (.int (i + b2i k))
  | _, _ => none
def addD : D → D → Option D
  | .int i, .int j => some (.int (i + j))
  | .int i, .bool k => some (.int (i + b2i k))
  | .str x, .str y => if x.length + y.length ≤ LIM then some (.str (x ++ y)) else none
  | .list xs, .list ys => if xs.length + ys.length ≤ LIM then some (.list (xs ++ ys)) else none
  | .tuple xs, .tuple ys => if xs.length + ys.length ≤ LIM then some (.tuple (xs ++ ys)) else none
  | _, _ => none
theorem addD_or {d e z : D} (h : addD d e = some z) : (addI d e = some z ∨ addB d e = some z) ∨ (addS d e = some z ∨ (addL d e = some z ∨ addT d e = some z)) := by
  unfold addD at h
  split at h
  · left; left; exact h
  · left; right; exact h
  · right; left; exact h
  · right; right; left; exact h
  · right; right; right; exact h
  · cases h
theorem hr_addS {K : PySem.W.Frag} : HR K (fun x y H Q => ∃ i j, x = .str i ∧ y = .str j ∧ i.length + j.length ≤ sizeLine ∧ Q (.str (i ++ j)) H) addS := by
  refine ⟨?_⟩; intro B H x y d e z Q s hx hy hz q
  unfold addS at hz
  split at hz
  · rename_i i j
    split at hz
    · rename_i hc
      cases hz
      exact ⟨i, j, hx.str, hy.str, lim_le hc, q _ B H (.refl s) (.str _)⟩
    · cases hz
  · cases hz
theorem hr_addB {K : PySem.W.Frag} : HR K (fun x y H Q => ∃ i k, x = .int i ∧ y = .bl k ∧ Q (.int (i + b2i k)) H) addB := by
  refine ⟨?_⟩; intro B H x y d e z Q s hx hy hz q
  unfold addB at hz
  split at hz
  · rename_i i j
    cases hz
    exact ⟨i, j, hx.int, hy.bool, q _ B H (.refl s) (.int _)⟩
  · cases hz
theorem paired_len {α β : Type} {F : α → β → Prop} {xs : List α} {ys : List β} (h : Paired F xs ys) : xs.length = ys.length := Paired.length h
theorem hr_addL {K : PySem.W.Frag} : HR K rCatR addL := by
  refine ⟨?_⟩; intro B H x y d e z Q s hx hy hz q
  unfold addL at hz
  split at hz
  · rename_i xs ys
    split at hz
    · rename_i hc
      cases hz
      obtain ⟨p, us, rfl, h1, h2⟩ := hx.items s
      obtain ⟨p', us', rfl, h1', h2'⟩ := hy.items s
      refine ⟨p, p', us, us', rfl, rfl, h1, h1', ?_, fun l hl => q _ (upd B l (.lst (us ++ us'))) _ (.new s hl) ?_⟩
      · rw [paired_len h2, paired_len h2']; exact lim_le hc
      · exact .lst (.inl upd_same) (((DnAll.of_paired h2).append (DnAll.of_paired h2')).mono (same_new (same_none s hl)))
    · cases hz
  · cases hz
theorem DnF.tupV {K : PySem.W.Frag} {B H : Hp} {v : V} {ds : List D} (h : DnF K B H 1 v (.tuple ds)) : Dn K B v (.tuple ds) := by
  rcases h with h | ⟨_, _, _, _, e, _⟩
  · exact h
  · cases e
theorem hr_addT {K : PySem.W.Frag} : HR K (rCatA K) addT := by
  refine ⟨?_⟩; intro B H x y d e z Q s hx hy hz q
  unfold addT at hz
  split at hz
  · rename_i xs ys
    split at hz
    · rename_i hc
      cases hz
      have hx' := hx.tupV
      have hy' := hy.tupV
      obtain ⟨p, us, rfl, h1, h2⟩ := hx.tups s
      obtain ⟨p', us', rfl, h1', h2'⟩ := hy.tups s
      refine ⟨p, p', us, us', rfl, rfl, h1, h1', ?_, fun e => ?_, fun _ e => ?_, fun _ _ l hl => q _ (upd B l (.tup (us ++ us'))) _ (.new s hl) ?_⟩
      · rw [h2.length, h2'.length]; exact lim_le hc
      · subst e
        cases h2
        exact q _ B H (.refl s) hy'
      · subst e
        cases h2'
        rw [List.append_nil] at q
        exact q _ B H (.refl s) hx'
      · exact .tup upd_same ((h2.append h2').mono (same_new (same_none s hl)))
    · cases hz
  · cases hz

theorem d_add (ha : PE X a (cV G ow 1 f)) (hb : PE X b (cV G ow 1 g)) (hK : X.K = G.K := by rfl) : PE X (.BinOp a .Add b pos) (cV G ow 0 (b2 f g addD)) :=
  d_bin (((HP.or (HP.or (hr_I0 (F := fun i j => .int (i + j)) fun _ _ _ => .int _) hr_addB) (HP.or hr_addS (HP.or hr_addL hr_addT)))).impP fun _ _ _ h => addD_or h)
    (OpR.or (OpR.or op_add op_add_ib) (OpR.or op_add_str (OpR.or op_catR (hK ▸ op_catA)))) ha hb
def subD : D → D → Option D := iiD (fun _ _ => true) fun i j => .int (i - j)
theorem d_sub (ha : PE X a (cV G ow 1 f)) (hb : PE X b (cV G ow 1 g)) : PE X (.BinOp a .Sub b pos) (cV G ow 0 (b2 f g subD)) := d_bin (hr_I0 fun _ _ _ => .int _) op_sub ha hb
def mulOk (i j : Int) : Bool := decide ((-18446744073709551616 < i ∧ i < 18446744073709551616) ∨ (-18446744073709551616 < j ∧ j < 18446744073709551616))
def mulD : D → D → Option D := iiD mulOk fun i j => .int (i * j)
theorem d_mul (ha : PE X a (cV G ow 1 f)) (hb : PE X b (cV G ow 1 g)) : PE X (.BinOp a .Mult b pos) (cV G ow 0 (b2 f g mulD)) := d_bin (hr_I (fun i j h => by
  have h := of_decide_eq_true h
  exact h) fun _ _ _ => .int _) op_mul ha hb
def mulWD : D → D → Option D := iiD (fun i j => decide (i.natAbs.log2 + j.natAbs.log2 < 1000000)) fun i j => .int (i * j)
theorem d_mulW (ha : PE X a (cV G ow 1 f)) (hb : PE X b (cV G ow 1 g)) : PE X (.BinOp a .Mult b pos) (cV G ow 0 (b2 f g mulWD)) := d_bin (hr_I (fun i j h => of_decide_eq_true h) fun _ _ _ => .int _) op_mulW ha hb
def fdivD : D → D → Option D := iiD (fun _ j => decide (0 < j ∧ j < 18446744073709551616)) fun i j => .int (i / j)
theorem log2_64 {j : Int} (h0 : 0 < j) (h : j < 18446744073709551616) : j.natAbs.log2 < 9000 := by
  have h1 : j.natAbs < 2 ^ 64 := by omega
  have h2 : j.natAbs ≠ 0 := by omega
  have := (Nat.log2_lt h2).mpr h1
  omega
theorem d_fdiv (ha : PE X a (cV G ow 1 f)) (hb : PE X b (cV G ow 1 g)) : PE X (.BinOp a .FloorDiv b pos) (cV G ow 0 (b2 f g fdivD)) := d_bin (hr_I (fun i j h => by
  have h := of_decide_eq_true h
  exact ⟨h.1, log2_64 h.1 h.2⟩) fun _ _ _ => .int _) op_fdivW ha hb
def fdivWD : D → D → Option D := iiD (fun _ j => decide (0 < j ∧ j.natAbs.log2 < 9000)) fun i j => .int (i / j)
theorem d_fdivW (ha : PE X a (cV G ow 1 f)) (hb : PE X b (cV G ow 1 g)) : PE X (.BinOp a .FloorDiv b pos) (cV G ow 0 (b2 f g fdivWD)) := d_bin (hr_I (fun i j h => of_decide_eq_true h) fun _ _ _ => .int _) op_fdivW ha hb
def modD : D → D → Option D := iiD (fun _ j => decide (0 < j)) fun i j => .int (i % j)
theorem d_mod (ha : PE X a (cV G ow 1 f)) (hb : PE X b (cV G ow 1 g)) : PE X (.BinOp a .Mod b pos) (cV G ow 0 (b2 f g modD)) := d_bin (hr_I (fun i j h => of_decide_eq_true h) fun _ _ _ => .int _) op_mod ha hb
def powOk (i j : Int) : Bool := decide (0 ≤ j ∧ j ≤ 1000000 ∧ i.natAbs < 18446744073709551616)
def powD : D → D → Option D := iiD powOk fun i j => .int (i ^ j.toNat)
theorem d_pow (ha : PE X a (cV G ow 1 f)) (hb : PE X b (cV G ow 1 g)) : PE X (.BinOp a .Pow b pos) (cV G ow 0 (b2 f g powD)) := d_bin (hr_I (fun i j h => by
  have h := of_decide_eq_true h
  exact h) fun _ _ _ => .int _) op_pow ha hb
def shlD : D → D → Option D := iiD powOk fun i j => .int (i * 2 ^ j.toNat)
theorem d_shl (ha : PE X a (cV G ow 1 f)) (hb : PE X b (cV G ow 1 g)) : PE X (.BinOp a .LShift b pos) (cV G ow 0 (b2 f g shlD)) := d_bin (hr_I (fun i j h => by
  have h := of_decide_eq_true h
  exact h) fun _ _ _ => .int _) op_shl ha hb
/-! ### comparisons -/
def ltD : D → D → Option D := iiD (fun _ _ => true) fun i j => .bool (decide (i < j))
def leD : D → D → Option D := iiD (fun _ _ => true) fun i j => .bool (decide (i ≤ j))
def gtD : D → D → Option D := iiD (fun _ _ => true) fun i j => .bool (decide (j < i))
def geD : D → D → Option D := iiD (fun _ _ => true) fun i j => .bool (decide (j ≤ i))
theorem d_lt (ha : PE X a (cV G ow 1 f)) (hb : PE X b (cV G ow 1 g)) : PE X (.Compare a [.Lt] [b] pos) (cV G ow 0 (b2 f g ltD)) := d_cmp (hr_I0 fun _ _ _ => .bl _) op_lt (nomark _) ha hb
theorem d_le (ha : PE X a (cV G ow 1 f)) (hb : PE X b (cV G ow 1 g)) : PE X (.Compare a [.LtE] [b] pos) (cV G ow 0 (b2 f g leD)) := d_cmp (hr_I0 fun _ _ _ => .bl _) op_le (nomark _) ha hb
theorem d_gt (ha : PE X a (cV G ow 1 f)) (hb : PE X b (cV G ow 1 g)) : PE X (.Compare a [.Gt] [b] pos) (cV G ow 0 (b2 f g gtD)) := d_cmp (hr_I0 fun _ _ _ => .bl _) op_gt (nomark _) ha hb
theorem d_ge (ha : PE X a (cV G ow 1 f)) (hb : PE X b (cV G ow 1 g)) : PE X (.Compare a [.GtE] [b] pos) (cV G ow 0 (b2 f g geD)) := d_cmp (hr_I0 fun _ _ _ => .bl _) op_ge (nomark _) ha hb
def eqD (d e : D) : Option D := if SeqAt.shaped d = true ∧ SeqAt.shaped e = true then some (.bool (PyData.eqv d e)) else none
def neD (d e : D) : Option D := if SeqAt.shaped d = true ∧ SeqAt.shaped e = true then some (.bool (!PyData.eqv d e)) else none
theorem hr_eq {K : PySem.W.Frag} : HR K (rEqD K) eqD := by
  refine ⟨?_⟩; intro B H x y d e z Q s hx hy hz q
  unfold eqD at hz
  split at hz
  · rename_i hc
    cases hz
    exact ⟨d, e, (hx.flu s).dp (SeqAt.canLay_of_shaped hc.1), (hy.flu s).dp (SeqAt.canLay_of_shaped hc.2), hc.1, hc.2, q _ B H (.refl s) (.bl _)⟩
  · cases hz
theorem hr_ne {K : PySem.W.Frag} : HR K (rNeD K) neD := by
  refine ⟨?_⟩; intro B H x y d e z Q s hx hy hz q
  unfold neD at hz
  split at hz
  · rename_i hc
    cases hz
    exact ⟨d, e, (hx.flu s).dp (SeqAt.canLay_of_shaped hc.1), (hy.flu s).dp (SeqAt.canLay_of_shaped hc.2), hc.1, hc.2, q _ B H (.refl s) (.bl _)⟩
  · cases hz
theorem d_eq {n : Nat} (hr : Room n X.A) (ha : PE X a (cV G ow 1 f)) (hb : PE X b (cV G ow 1 g)) (hK : X.K = G.K := by rfl) : PE X (.Compare a [.Eq] [b] pos) (cV G ow 0 (b2 f g eqD)) := d_cmp hr_eq (hK ▸ op_eqD hr.units) (nomark _) ha hb
theorem d_ne {n : Nat} (hr : Room n X.A) (ha : PE X a (cV G ow 1 f)) (hb : PE X b (cV G ow 1 g)) (hK : X.K = G.K := by rfl) : PE X (.Compare a [.NotEq] [b] pos) (cV G ow 0 (b2 f g neD)) := d_cmp hr_ne (hK ▸ op_neD hr.units) (nomark _) ha hb
/-- x in a list, flat or deep; in a tuple of flat things -/
def flatD : D → Bool
  | .none => true
  | .bool _ => true
  | .int _ => true
  | .str _ => true
  | _ => false
theorem flat_dn {K : PySem.W.Frag} {H : Hp} {v : V} {d : D} (h : Dn K H v d) (e : flatD d = true) : flatV v = true := by
  cases h <;> first | rfl | cases e
theorem flat_eqv {K : PySem.W.Frag} {H : Hp} {v u : V} {d e : D} (h : Dn K H v d) (h' : Dn K H u e) (f : flatD d = true) (f' : flatD e = true) : eqV v u = PyData.eqv d e := by
  cases h <;> (first | cases f | skip) <;> cases h' <;> (first | cases f' | skip) <;> rfl
theorem flat_all {K : PySem.W.Frag} {H : Hp} : ∀ {vs : List V} {ds : List D}, DnAll K H vs ds → ds.all flatD = true → vs.all flatV = true
  | _, _, .nil, _ => rfl
  | _, _, .cons h t, f => by
    rw [List.all_cons, Bool.and_eq_true] at f
    rw [List.all_cons, flat_dn h f.1, flat_all t f.2]
    rfl
theorem flat_in {K : PySem.W.Frag} {H : Hp} {v : V} {d : D} (h : Dn K H v d) (f : flatD d = true) : ∀ {vs : List V} {ds : List D}, DnAll K H vs ds → ds.all flatD = true → inV v vs = ds.any fun z => PyData.eqv z d
  | _, _, .nil, _ => rfl
  | _, _, .cons (v := u) (vs := us) h' t, g => by
    rw [List.all_cons, Bool.and_eq_true] at g
    show (u :: us).any _ = _
    rw [List.any_cons, List.any_cons, flat_eqv h' h g.1 f]
    exact congrArg _ (flat_in h f t g.2)
def inD (neg : Bool) (d : D) : D → Option D
  | .list ds => if SeqAt.shaped d = true ∧ SeqAt.shaped (.list ds) = true then some (.bool (neg != ds.any fun z => PyData.eqv z d)) else none
  | .tuple ds => if flatD d = true ∧ ds.all flatD = true then some (.bool (neg != ds.any fun z => PyData.eqv z d)) else none
  | _ => none
def rIn2 (K : PySem.W.Frag) (neg : Bool) : R2 := fun x y H Q => rIn K neg x y H Q ∨ (if neg then rNotInD K else rInD K) x y H Q
theorem hr_in {K : PySem.W.Frag} {neg : Bool} : HR K (rIn2 K neg) (inD neg) := by
  refine ⟨?_⟩; intro B H x y d e z Q s hx hy hz q
  unfold inD at hz
  split at hz
  · rename_i ds
    split at hz
    · rename_i hc
      cases hz
      have h1 := (hx.flu s).dp (SeqAt.canLay_of_shaped hc.1)
      have h2 := (hy.flu s).dp (SeqAt.canLay_of_shaped hc.2)
      right
      cases neg with
      | true => exact ⟨d, ds, h1, h2, hc.1, hc.2, q _ B H (.refl s) (by rw [Bool.true_bne]; exact .bl _)⟩
      | false => exact ⟨d, ds, h1, h2, hc.1, hc.2, q _ B H (.refl s) (by rw [Bool.false_bne]; exact .bl _)⟩
    · cases hz
  · rename_i ds
    split at hz
    · rename_i hc
      cases hz
      left
      obtain ⟨p, us, rfl, h1, h2⟩ := hy.tups s
      have hx' := hx.flu s
      have h2' := h2.mono s
      refine ⟨p, us, rfl, .inr h1, flat_dn hx' hc.1, flat_all h2' hc.2, q _ B H (.refl s) ?_⟩
      rw [flat_in hx' hc.1 h2' hc.2]
      cases neg with
      | true => rw [Bool.true_bne, if_pos rfl]; exact .bl _
      | false => rw [Bool.false_bne, if_neg (by decide)]; exact .bl _
    · cases hz
  · cases hz
theorem d_in {n : Nat} (hr : Room n X.A) (ha : PE X a (cV G ow 1 f)) (hb : PE X b (cV G ow 1 g)) (hm : behindInMarks .In b = false := by rfl) (hK : X.K = G.K := by rfl) : PE X (.Compare a [.In] [b] pos) (cV G ow 0 (b2 f g (inD false))) :=
  d_cmp (r := rIn2 G.K false) hr_in (hK ▸ OpR.or op_in_seq (op_inD (by have := hr.un; omega))) hm ha hb
theorem d_notin {n : Nat} (hr : Room n X.A) (ha : PE X a (cV G ow 1 f)) (hb : PE X b (cV G ow 1 g)) (hm : behindInMarks .NotIn b = false := by rfl) (hK : X.K = G.K := by rfl) : PE X (.Compare a [.NotIn] [b] pos) (cV G ow 0 (b2 f g (inD true))) :=
  d_cmp (r := rIn2 G.K true) hr_in (hK ▸ OpR.or op_notIn_seq (op_notInD (by have := hr.un; omega))) hm ha hb
def isNoneD : D → Bool
  | .none => true
  | _ => false
theorem dn_non {K : PySem.W.Frag} {H : Hp} {v : V} {d : D} (h : Dn K H v d) : decide (v = V.non) = isNoneD d := by
  cases h <;> rfl
theorem d_isN {j : Nat} {p2 : Pos} (ha : PE X a (cV G ow 1 f)) : PE X (.Compare a [.Is] [.Constant .none j p2] pos) (cV G ow 0 (b1 f fun d => some (.bool (isNoneD d)))) := (pe_cmp (pc_isN ha) rfl).impD fun σ H Q ⟨B, γ, I, q⟩ => ⟨B, γ, I, q.bind.imp fun d q v B1 H1 x1 hv => by
  show Q (V.bl (decide (v = V.non))) H1
  rw [dn_non (hv.flu x1.s)]
  exact q _ B1 H1 x1 (.bl _)⟩
theorem d_notN {j : Nat} {p2 : Pos} (ha : PE X a (cV G ow 1 f)) : PE X (.Compare a [.IsNot] [.Constant .none j p2] pos) (cV G ow 0 (b1 f fun d => some (.bool (!isNoneD d)))) := (pe_cmp (pc_notN ha) rfl).impD fun σ H Q ⟨B, γ, I, q⟩ => ⟨B, γ, I, q.bind.imp fun d q v B1 H1 x1 hv => by
  show Q (V.bl (!decide (v = V.non))) H1
  rw [dn_non (hv.flu x1.s)]
  exact q _ B1 H1 x1 (.bl _)⟩
def isB (neg : Bool) : D → D → Option D
  | .bool i, .bool j => some (.bool (neg != decide (i = j)))
  | _, _ => none
theorem d_isB (ha : PE X a (cV G ow 1 f)) (hb : PE X b (cV G ow 1 g)) : PE X (.Compare a [.Is] [b] pos) (cV G ow 0 (b2 f g (isB false))) := d_cmp (by
  refine ⟨?_⟩; intro B H x y d e z Q s hx hy hz q
  unfold isB at hz
  split at hz
  · cases hz
    exact ⟨_, _, hx.bool, hy.bool, q _ B H (.refl s) (by rw [Bool.false_bne]; exact .bl _)⟩
  · cases hz) op_is_bl (nomark _) ha hb
theorem d_isnotB (ha : PE X a (cV G ow 1 f)) (hb : PE X b (cV G ow 1 g)) : PE X (.Compare a [.IsNot] [b] pos) (cV G ow 0 (b2 f g (isB true))) := d_cmp (by
  refine ⟨?_⟩; intro B H x y d e z Q s hx hy hz q
  unfold isB at hz
  split at hz
  · cases hz
    exact ⟨_, _, hx.bool, hy.bool, q _ B H (.refl s) (by rw [Bool.true_bne]; exact .bl _)⟩
  · cases hz) op_isnot_bl (nomark _) ha hb
/-- a op b op c of ints -/
def chainD (p q : D → D → Option D) (d e : D) (z : Rs D) : Rs D := (oR (p d e)).bind fun r => match r with
  | .bool true => z.bind fun c => oR (q e c)
  | .bool false => .ok (.bool false)
  | _ => .no
theorem d_chain {op op' : CmpOp} {r r' : R2} {F F' : D → D → Option D} {c : Expr} {h : Env → Rs D} (hF : HR G.K r F) (hF' : HR G.K r' F') (ho : OpR X (compareOp op) r) (ho' : OpR X (compareOp op') r') (ha : PE X a (cV G ow 1 f)) (hb : PE X b (cV G ow 1 g)) (hc : PE X c (cV G ow 1 h))
    (hm : lastMarks [op, op'] [b, c] = false := by with_unfolding_all rfl) : PE X (.Compare a [op, op'] [b, c] pos) (cV G ow 0 fun γ => (f γ).bind fun d => (g γ).bind fun e => chainD F F' d e (h γ)) :=
  (pe_chain ho ho' ha hb hc hm).impD fun σ H Q ⟨B, γ, I, q⟩ => ⟨B, γ, I, q.bind.imp fun d q v B1 H1 x1 hv => ⟨B1, γ, I.mono x1, q.bind.mono x1 fun e q u B2 H2 x2 hu => by
    unfold chainD at q
    obtain ⟨z, ez, q⟩ := q.bind.oR
    refine hF.run x2.s (hv.mono x2) hu ez fun w B3 H3 x3 hw => ?_
    cases z with
    | bool k =>
      cases hw
      refine ⟨k, rfl, ?_⟩
      cases k with
      | true =>
        rw [if_pos rfl]
        refine ⟨B3, γ, I.mono ((x1.trans x2).trans x3), RsP.mono ((x1.trans x2).trans x3) (show RsP G σ B H ((h γ).bind fun c => oR (F' e c)) _ from q).bind fun c q w' B4 H4 x4 hw' => ?_⟩
        obtain ⟨z', ez', q⟩ := q.oR
        exact hF'.run x4.s ((hu.mono x3).mono x4) hw' ez' fun w5 B5 H5 x5 hw5 => q w5 B5 H5 ((((x1.trans x2).trans x3).trans x4).trans x5) hw5
      | false =>
        rw [if_neg (by decide)]
        exact q _ B3 H3 ((x1.trans x2).trans x3) (.bl _)
    | none => exact q.elim
    | int _ => exact q.elim
    | str _ => exact q.elim
    | list _ => exact q.elim
    | tuple _ => exact q.elim
    | dict _ => exact q.elim⟩⟩
theorem hr_lt {K : PySem.W.Frag} : HR K (rI0 fun i j => .bl (decide (i < j))) ltD := hr_I0 fun _ _ _ => .bl _
theorem hr_le {K : PySem.W.Frag} : HR K (rI0 fun i j => .bl (decide (i ≤ j))) leD := hr_I0 fun _ _ _ => .bl _
theorem hr_gt {K : PySem.W.Frag} : HR K (rI0 fun i j => .bl (decide (j < i))) gtD := hr_I0 fun _ _ _ => .bl _
theorem hr_ge {K : PySem.W.Frag} : HR K (rI0 fun i j => .bl (decide (j ≤ i))) geD := hr_I0 fun _ _ _ => .bl _

/-! ### one-place -/
def negD : D → Option D
  | .int i => some (.int (-i))
  | _ => none
theorem d_neg (ha : PE X a (cV G ow 1 f)) : PE X (.UnaryOp .USub a pos) (cV G ow 0 (b1 f negD)) := (pe_un un_neg ha).impD fun σ H Q ⟨B, γ, I, q⟩ => ⟨B, γ, I, q.bind.imp fun d q v B1 H1 x1 hv => by
  obtain ⟨z, ez, q⟩ := q.oR
  unfold negD at ez
  split at ez
  · cases ez
    exact ⟨_, hv.int, q _ B1 H1 x1 (Dn.int _)⟩
  · cases ez⟩

/-! ### places -/
def ixD : D → D → Option D
  | .list ds, .int i => atI ds i
  | .dict [(.none, .list ds)], .int i => atI ds i
  | .tuple ds, .int i => atI ds i
  | .str z, .int i => if z.length ≤ LIM then (atI z.cps.toList i).map fun c => .str ⟨#[c]⟩ else none
  | _, _ => none
theorem atI_len {α β : Type} {F : α → β → Prop} {xs : List α} {ys : List β} {i : Int} {y : β} (h : Paired F xs ys) (e : atI ys i = some y) : ∃ x, atI xs i = some x ∧ F x y := by
  unfold atI at e ⊢
  rw [paired_len h]
  cases hj : ixN ys.length i with
  | none => rw [hj] at e; cases e
  | some j =>
    rw [hj] at e
    show ∃ x, xs[j]? = some x ∧ F x y
    replace e : ys[j]? = some y := e
    clear hj
    induction h generalizing j with
    | nil => simp at e
    | cons r t ih =>
      cases j with
      | zero => simp at e; subst e; exact ⟨_, rfl, r⟩
      | succ j => exact ih j (by simpa using e)
theorem hr_ix {K : PySem.W.Frag} : HR K (rIx K) ixD := by
  refine ⟨?_⟩; intro B H x y d e z Q s hx hy hz q
  unfold ixD at hz
  split at hz
  · rename_i ds i
    obtain ⟨p, us, rfl, h1, h2⟩ := hx.items s
    obtain ⟨v, e1, e2⟩ := atI_len h2 hz
    exact .inl ⟨p, us, i, v, rfl, hy.int, .inl h1, e1, q _ B H (.refl s) e2⟩
  · rename_i ds i
    obtain ⟨p, us, rfl, _, h1, h2⟩ := hx.rol s
    obtain ⟨v, e1, e2⟩ := atI_len h2.paired hz
    exact .inl ⟨p, us, i, v, rfl, hy.int, h1, e1, q _ B H (.refl s) e2⟩
  · rename_i ds i
    obtain ⟨p, us, rfl, h1, h2⟩ := hx.tups s
    obtain ⟨v, e1, e2⟩ := atI_len h2.paired hz
    exact .inr (.inl ⟨p, us, i, v, rfl, hy.int, h1, e1, q _ B H (.refl s) e2⟩)
  · rename_i t i
    split at hz
    · rename_i hc
      cases ha : atI t.cps.toList i with
      | none => rw [ha] at hz; cases hz
      | some c =>
        rw [ha] at hz
        cases hz
        exact .inr (.inr ⟨t, i, c, hx.str, hy.int, lim_le hc, ha, q _ B H (.refl s) (.str _)⟩)
    · cases hz
  · cases hz
theorem d_ix (ha : PE X a (cV G ow 1 f)) (hb : PE X b (cV G ow 1 g)) (hs : PlainIx b := by intro _ _; rfl) (hK : X.K = G.K := by rfl) : PE X (.Subscript a b pos) (cV G ow 0 (b2 f g ixD)) := d_op2 hr_ix (fun h1 h2 => pe_ix (hK ▸ ix_seq) h1 h2 hs) ha hb

/-! ### arguments, displays -/
theorem a_nil : PA X [] (cA G ow k fun _ => .ok []) := pa_nil.impD fun σ H Q ⟨B, γ, I, q⟩ => q [] B H (.refl I.s) .nil
theorem a_cons {es : List Expr} {fs : Env → Rs (List D)} (ha : PE X a (cV G ow k f)) (hr : PA X es (cA G ow k fs)) (hs : starEach (a :: es) X.env = (false, eval a X.env) :: starEach es X.env := by rfl) :
    PA X (a :: es) (cA G ow k fun γ => (f γ).bind fun d => (fs γ).map fun ds => d :: ds) := (pa_cons ha hr hs).impD fun σ H Q ⟨B, γ, I, q⟩ => ⟨B, γ, I, q.bind.imp fun d q v B1 H1 x1 hv => ⟨B1, γ, I.mono x1, q.map.mono x1 fun ds q vs B2 H2 x2 hvs =>
      q (v :: vs) B2 H2 (x1.trans x2) (.cons (hv.mono x2) hvs)⟩⟩
def szL (ds : List D) : Option (List D) := if ds.length ≤ LIM then some ds else none
def szT (ds : List D) : Option D := if ds.length ≤ LIM then some (.tuple ds) else none
theorem szL_some {ds es : List D} (h : szL ds = some es) : ds.length ≤ LIM ∧ es = ds := by
  unfold szL at h
  split at h
  · rename_i hc; cases h; exact ⟨hc, rfl⟩
  · cases h
theorem n_lst {es : List Expr} {fs : Env → Rs (List D)} (h : PA X es (cA G ow 0 fs)) : PE X (.List es pos) (cN G ow fun γ => (fs γ).bind fun ds => oR (szL ds)) := (pe_lst h).impD fun σ H Q ⟨B, γ, I, q⟩ => ⟨B, γ, I, q.bind.imp fun ds q vs B1 H1 x1 hvs => by
  obtain ⟨z, ez, q9⟩ := q.oR
  obtain ⟨hl, e9⟩ := szL_some ez
  subst e9
  have hd : DnAll G.K B1 vs z := .of_paired hvs
  exact ⟨by rw [hd.length]; exact lim_le hl, fun p hp => q9 p vs B1 _ (x1.trans (.hid x1.s hp)) (x1.h.free hp) (same_none x1.s hp) upd_same hd⟩⟩
theorem d_tup {es : List Expr} {fs : Env → Rs (List D)} {kk : Nat} (h : PA X es (cA G ow 0 fs)) : PE X (.Tuple es kk pos) (cV G ow 0 fun γ => (fs γ).bind fun ds => oR (szT ds)) := (pe_tup h).impD fun σ H Q ⟨B, γ, I, q⟩ => ⟨B, γ, I, q.bind.imp fun ds q vs B1 H1 x1 hvs => by
  obtain ⟨z, ez, q⟩ := q.oR
  unfold szT at ez
  split at ez
  · rename_i hl
    cases ez
    have hd : DnAll G.K B1 vs ds := .of_paired hvs
    exact ⟨by rw [hd.length]; exact lim_le hl, fun p hp => q (.ref p) _ _ (x1.trans (.new x1.s hp)) (.tup upd_same (hd.mono (same_new (same_none x1.s hp))))⟩
  · cases ez⟩
/-! ### slices -/
theorem o_none : PO X none (cO G ow fun _ => .ok none) := po_none.impD fun σ H Q ⟨B, γ, I, q⟩ => q B H (.refl I.s)
def intO : D → Option (Option Int)
  | .int i => some (some i)
  | _ => none
theorem o_some (ha : PE X a (cV G ow 1 f)) : PO X (some a) (cO G ow fun γ => (f γ).bind fun d => oR (intO d)) := (po_some ha).impD fun σ H Q ⟨B, γ, I, q⟩ => ⟨B, γ, I, q.bind.imp fun d q v B1 H1 x1 hv => by
  obtain ⟨z, ez, q⟩ := q.oR
  unfold intO at ez
  split at ez
  · cases ez
    exact ⟨_, hv.int, q B1 H1 x1⟩
  · cases ez⟩
def cutD (ds : List D) (lo hi : Option Int) : List D := (ds.drop (HT.sIx ds.length 0 lo)).take (HT.sIx ds.length ds.length hi - HT.sIx ds.length 0 lo)
theorem cut_all {K : PySem.W.Frag} {H : Hp} {xs : List V} {ds : List D} (h : DnAll K H xs ds) (lo hi : Option Int) : DnAll K H (cutV xs lo hi) (cutD ds lo hi) := by
  unfold cutV cutD
  rw [h.length]
  exact (h.drop _).take _
def cutLD (lo hi : Option Int) : D → Option (List D)
  | .list ds => some (cutD ds lo hi)
  | .dict [(.none, .list ds)] => some (cutD ds lo hi)
  | _ => none
theorem n_slice {lo hi : Option Expr} {fl fh : Env → Rs (Option Int)} {p2 : Pos} (ha : PE X a (cV G ow 1 f)) (hl : PO X lo (cO G ow fl)) (hh : PO X hi (cO G ow fh)) (hK : X.K = G.K := by rfl) :
    PE X (.Subscript a (.Slice lo hi none p2) pos) (cN G ow fun γ => (f γ).bind fun d => (fl γ).bind fun l => (fh γ).bind fun h => oR (cutLD l h d)) :=
  (pe_slice (hK ▸ sl_list) ha hl hh).impD fun σ H Q ⟨B, γ, I, q⟩ => ⟨B, γ, I, q.bind.imp fun d q1 v B1 H1 x1 hv => ⟨B1, γ, I.mono x1, q1.bind.mono x1 fun l q2 B2 H2 x2 => ⟨B2, γ, I.mono (x1.trans x2), q2.bind.mono (x1.trans x2) fun u q3 B3 H3 x3 => by
    obtain ⟨z, ez, q9⟩ := q3.oR
    unfold cutLD at ez
    split at ez
    · rename_i ds
      cases ez
      have x23 := x2.trans x3
      obtain ⟨p, us, rfl, h1, h2⟩ := (hv.mono x23).items x23.s
      refine ⟨p, us, rfl, .inl h1, fun r hr => q9 r _ B3 _ ((x1.trans x23).trans (.hid x23.s hr)) ((x1.trans x23).h.free hr) (same_none x23.s hr) upd_same (cut_all (.of_paired h2) l u)⟩
    · rename_i ds
      cases ez
      have x23 := x2.trans x3
      obtain ⟨p, us, rfl, _, h1, h2⟩ := DnF.rol x23.s (hv.mono x23)
      exact ⟨p, us, rfl, h1, fun r hr => q9 r _ B3 _ ((x1.trans x23).trans (.hid x23.s hr)) ((x1.trans x23).h.free hr) (same_none x23.s hr) upd_same (cut_all h2 l u)⟩
    · cases ez⟩⟩⟩
/-- a slice of a tuple that isn't the whole, of a text -/
def cutTD (lo hi : Option Int) : D → Option D
  | .tuple ds => if ¬ (HT.sIx ds.length 0 lo = 0 ∧ HT.sIx ds.length ds.length hi = ds.length) then some (.tuple (cutD ds lo hi)) else none
  | .str z => if z.length ≤ LIM then some (.str (cutS z lo hi)) else none
  | _ => none
theorem d_slice {lo hi : Option Expr} {fl fh : Env → Rs (Option Int)} {p2 : Pos} (ha : PE X a (cV G ow 1 f)) (hl : PO X lo (cO G ow fl)) (hh : PO X hi (cO G ow fh)) (hK : X.K = G.K := by rfl) :
    PE X (.Subscript a (.Slice lo hi none p2) pos) (cV G ow 0 fun γ => (f γ).bind fun d => (fl γ).bind fun l => (fh γ).bind fun h => oR (cutTD l h d)) :=
  (pe_slice (SlR.or (hK ▸ sl_tup) sl_str) ha hl hh).impD fun σ H Q ⟨B, γ, I, q⟩ => ⟨B, γ, I, q.bind.imp fun d q1 v B1 H1 x1 hv => ⟨B1, γ, I.mono x1, q1.bind.mono x1 fun l q2 B2 H2 x2 => ⟨B2, γ, I.mono (x1.trans x2), q2.bind.mono (x1.trans x2) fun u q3 B3 H3 x3 => by
    obtain ⟨z, ez, q⟩ := q3.oR
    have x23 := x2.trans x3
    unfold cutTD at ez
    split at ez
    · rename_i ds
      split at ez
      · rename_i hc
        cases ez
        obtain ⟨p, us, rfl, h1, h2⟩ := (hv.mono x23).tups x23.s
        refine .inl ⟨p, us, rfl, h1, by rw [h2.length]; exact hc, fun r hr => q (.ref r) _ _ ((x1.trans x23).trans (.new x23.s hr)) (.tup upd_same ((cut_all h2 l u).mono (same_new (same_none x23.s hr))))⟩
      · cases ez
    · rename_i t
      split at ez
      · rename_i hc
        cases ez
        exact .inr ⟨t, (hv.mono x23).str, lim_le hc, q _ B3 H3 (x1.trans x23) (Dn.str _)⟩
      · cases ez
    · cases ez⟩⟩⟩
/-- a + b of lists, where the new list stays one's own -/
def catD : D → D → Option (List D)
  | .list xs, .list ys => if xs.length + ys.length ≤ LIM then some (xs ++ ys) else none
  | _, _ => none
theorem n_cat (ha : PE X a (cV G ow 1 f)) (hb : PE X b (cV G ow 1 g)) : PE X (.BinOp a .Add b pos) (cN G ow fun γ => (f γ).bind fun d => (g γ).bind fun e => oR (catD d e)) :=
  (pe_op op_catR ha hb).impD fun σ H Q ⟨B, γ, I, q⟩ => ⟨B, γ, I, q.bind.imp fun d q v B1 H1 x1 hv => ⟨B1, γ, I.mono x1, q.bind.mono x1 fun e q u B2 H2 x2 hu => by
    obtain ⟨z, ez, q⟩ := q.oR
    unfold catD at ez
    split at ez
    · rename_i xs ys
      split at ez
      · rename_i hc
        cases ez
        obtain ⟨p, us, rfl, h1, h2⟩ := (hv.mono x2).items x2.s
        obtain ⟨p', us', rfl, h1', h2'⟩ := hu.items x2.s
        refine ⟨p, p', us, us', rfl, rfl, h1, h1', ?_, fun r hr => q r _ B2 _ ((x1.trans x2).trans (.hid x2.s hr)) ((x1.trans x2).h.free hr) (same_none x2.s hr) upd_same ((DnAll.of_paired h2).append (DnAll.of_paired h2'))⟩
        rw [paired_len h2, paired_len h2']
        exact lim_le hc
      · cases ez
    · cases ez⟩⟩
/-- a display times an int -/
def repD (ds : List D) : D → Option (List D)
  | .int k => if k ≤ LIM ∧ -LIM ≤ k ∧ ds.length * k.toNat ≤ LIM then some (List.replicate k.toNat ds).flatten else none
  | _ => none
theorem n_rep {fs : Env → Rs (List D)} (ha : PE X a (cN G ow fs)) (hb : PE X b (cV G ow 1 g)) : PE X (.BinOp a .Mult b pos) (cN G ow fun γ => (fs γ).bind fun ds => (g γ).bind fun e => oR (repD ds e)) :=
  (pe_op op_rep ha hb).impD fun σ H Q ⟨B, γ, I, q⟩ => ⟨B, γ, I, q.bind.imp fun ds q p xs B1 H1 x1 hp hb hl hd => ⟨B1, γ, I.mono x1, q.bind.mono x1 fun e q u B2 H2 x2 hu => by
    obtain ⟨z, ez, q⟩ := q.oR
    unfold repD at ez
    split at ez
    · rename_i k
      split at ez
      · rename_i hc
        obtain ⟨c1, c2, c3⟩ := hc
        cases ez
        refine ⟨p, k, xs, rfl, hu.int, x2.h _ _ hl, ?_, ?_, ?_, fun r hr => q r _ B2 _ ((x1.trans x2).trans (.hid x2.s hr)) ((x1.trans x2).h.free hr) (same_none x2.s hr) upd_same ((hd.mono x2.b).rep _)⟩
        · exact Int.le_trans (by decide) c2
        · exact Int.lt_of_le_of_lt c1 (by decide)
        · rw [hd.length]; exact lim_le c3
      · cases ez
    · cases ez⟩⟩

/-! ### tests -/
def truD : D → Option Bool
  | .none => some false
  | .bool b => some b
  | .int i => some (i != 0)
  | .str z => if z.length ≤ LIM then some ((z.length : Int) != 0) else none
  | .list ds => some !ds.isEmpty
  | .tuple ds => some !ds.isEmpty
  | .dict es => none
theorem isE {K : PySem.W.Frag} {H : Hp} {xs : List V} {ds : List D} (h : DnAll K H xs ds) : (!xs.isEmpty) = !ds.isEmpty := by cases h <;> rfl
theorem t_truth (ha : PE X a (cV G ow 1 f)) (he : ∀ whole, isTrue a X.env whole = (do let v ← whole; standAt a.pos; holding [v] (truthy v)) := by intro _; rfl) (hK : X.K = G.K := by rfl) : PT X a (cT G ow fun γ => (f γ).bind fun d => oR (truD d)) :=
  (pt_truth ha he).impD fun σ H Q ⟨B, γ, I, q⟩ => ⟨B, γ, I, q.bind.imp fun d q v B1 H1 x1 hv => by
    obtain ⟨z, ez, q⟩ := q.oR
    rw [hK]
    refine ⟨z, ?_, q B1 H1 x1⟩
    cases d with
    | none => cases ez; rw [hv.none]; rfl
    | bool b => cases ez; rw [hv.bool]; rfl
    | int i => cases ez; rw [hv.int]; rfl
    | str t =>
      unfold truD at ez
      dsimp only at ez
      split at ez
      · rename_i hc
        cases ez
        rw [hv.str]
        exact ⟨lim_le hc, rfl⟩
      · cases ez
    | list ds =>
      cases ez
      obtain ⟨p, us, rfl, h1, h2⟩ := hv.items x1.s
      exact .inl ⟨us, .inl h1, (isE (.of_paired h2)).symm⟩
    | tuple ds =>
      cases ez
      obtain ⟨p, us, rfl, h1, h2⟩ := hv.tups x1.s
      exact .inr (.inl ⟨us, h1, (isE h2).symm⟩)
    | dict es => cases ez⟩
variable {t u : Env → Rs Bool}
def boolO : D → Option Bool
  | .bool b => some b
  | _ => none
theorem t_val (ha : PE X a (cV G ow 1 f)) (he : ∀ whole, isTrue a X.env whole = (do let v ← whole; standAt a.pos; holding [v] (truthy v)) := by intro _; rfl) : PT X a (cT G ow fun γ => (f γ).bind fun d => oR (boolO d)) :=
  (pt_val ha he).impD fun σ H Q ⟨B, γ, I, q⟩ => ⟨B, γ, I, q.bind.imp fun d q v B1 H1 x1 hv => by
    obtain ⟨z, ez, q⟩ := q.oR
    unfold boolO at ez
    split at ez
    · cases ez
      exact ⟨_, hv.bool, q B1 H1 x1⟩
    · cases ez⟩
theorem _root_.L2.PW.impD {t t' : TT} (h : PW X e t) (hi : ∀ σ H Q, t' σ H Q → t σ H Q) : PW X e t' := ⟨fun wh pins s σ H Q I q => h.run wh pins s σ H Q I (hi σ H Q q)⟩
theorem t_and1 (ha : PT X a (cT G ow t)) : PW X (.BoolOp .And [a] pos) (cT G ow t) := pw_and1 ha
theorem t_or1 (ha : PT X a (cT G ow t)) : PW X (.BoolOp .Or [a] pos) (cT G ow t) := pw_or1 ha
def andR (x : Rs Bool) (y : Rs Bool) : Rs Bool := x.bind fun c => if c = true then y else .ok false
def orR (x : Rs Bool) (y : Rs Bool) : Rs Bool := x.bind fun c => if c = true then .ok true else y
theorem t_and {rest : List Expr} (ha : PT X a (cT G ow t)) (hb : PW X (.BoolOp .And (b :: rest) pos) (cT G ow u)) : PW X (.BoolOp .And (a :: b :: rest) pos) (cT G ow fun γ => andR (t γ) (u γ)) :=
  L2.PW.impD (pw_and ha hb) fun σ H Q ⟨B, γ, I, q⟩ => ⟨B, γ, I, (show RsP G σ B H ((t γ).bind _) _ from q).bind.imp fun c q B1 H1 x1 => by
    cases c with
    | true => exact ⟨B1, γ, I.mono x1, RsP.mono x1 (show RsP G σ B H (u γ) _ from q) fun c q B2 H2 x2 => q B2 H2 (x1.trans x2)⟩
    | false => exact (show ∀ B' H', _ from q) B1 H1 x1⟩
theorem t_or {rest : List Expr} (ha : PT X a (cT G ow t)) (hb : PW X (.BoolOp .Or (b :: rest) pos) (cT G ow u)) : PW X (.BoolOp .Or (a :: b :: rest) pos) (cT G ow fun γ => orR (t γ) (u γ)) :=
  L2.PW.impD (pw_or ha hb) fun σ H Q ⟨B, γ, I, q⟩ => ⟨B, γ, I, (show RsP G σ B H ((t γ).bind _) _ from q).bind.imp fun c q B1 H1 x1 => by
    cases c with
    | false => exact ⟨B1, γ, I.mono x1, RsP.mono x1 (show RsP G σ B H (u γ) _ from q) fun c q B2 H2 x2 => q B2 H2 (x1.trans x2)⟩
    | true => exact (show ∀ B' H', _ from q) B1 H1 x1⟩
theorem t_not (ha : PT X a (cT G ow t)) : PT X (.UnaryOp .Not a pos) (cT G ow fun γ => (t γ).map not) := (pt_not ha).impD fun σ H Q ⟨B, γ, I, q⟩ => ⟨B, γ, I, q.map.imp fun c q => q⟩
/-- and, or, not as values: bools ahead -/
def andVR (x : Rs D) (y : Rs D) : Rs D := x.bind fun c => match c with
  | .bool true => y
  | .bool false => .ok (.bool false)
  | _ => .no
def orVR (x : Rs D) (y : Rs D) : Rs D := x.bind fun c => match c with
  | .bool false => y
  | .bool true => .ok (.bool true)
  | _ => .no
theorem RsP.andV {σ : L2.St} {B H : Hp} {x y : Rs D} {P : D → Prop} (h : RsP G σ B H (andVR x y) P) : RsP G σ B H x fun c => ∃ b, c = .bool b ∧ if b = true then RsP G σ B H y P else P (.bool false) := by
  refine (RsP.bind h).imp fun c h => ?_
  cases c with
  | bool b => cases b with
    | true => exact ⟨true, rfl, h⟩
    | false => exact ⟨false, rfl, h⟩
  | none => exact h.elim
  | int _ => exact h.elim
  | str _ => exact h.elim
  | list _ => exact h.elim
  | tuple _ => exact h.elim
  | dict _ => exact h.elim
theorem RsP.orV {σ : L2.St} {B H : Hp} {x y : Rs D} {P : D → Prop} (h : RsP G σ B H (orVR x y) P) : RsP G σ B H x fun c => ∃ b, c = .bool b ∧ if b = true then P (.bool true) else RsP G σ B H y P := by
  refine (RsP.bind h).imp fun c h => ?_
  cases c with
  | bool b => cases b with
    | true => exact ⟨true, rfl, h⟩
    | false => exact ⟨false, rfl, h⟩
  | none => exact h.elim
  | int _ => exact h.elim
  | str _ => exact h.elim
  | list _ => exact h.elim
  | tuple _ => exact h.elim
  | dict _ => exact h.elim
theorem d_one {op : BoolOp} (ha : PE X a (cV G ow 0 f)) : PE X (.BoolOp op [a] pos) (cV G ow 0 f) := pe_one ha
theorem d_and {rest : List Expr} (ha : PE X a (cV G ow 1 f)) (hb : PE X (.BoolOp .And (b :: rest) pos) (cV G ow 0 g)) : PE X (.BoolOp .And (a :: b :: rest) pos) (cV G ow 0 fun γ => andVR (f γ) (g γ)) :=
  (pe_and ha hb).impD fun σ H Q ⟨B, γ, I, q⟩ => ⟨B, γ, I, q.andV.imp fun c q v B1 H1 x1 hv => by
    obtain ⟨k, rfl, q⟩ := q
    refine ⟨k, hv.bool, ?_⟩
    cases k with
    | true => exact ⟨B1, γ, I.mono x1, RsP.mono x1 (show RsP G σ B H (g γ) _ from q) fun d q v2 B2 H2 x2 h2 => q v2 B2 H2 (x1.trans x2) h2⟩
    | false => exact (show ∀ v B' H', _ from q) _ B1 H1 x1 (.bl _)⟩
theorem d_or {rest : List Expr} (ha : PE X a (cV G ow 1 f)) (hb : PE X (.BoolOp .Or (b :: rest) pos) (cV G ow 0 g)) : PE X (.BoolOp .Or (a :: b :: rest) pos) (cV G ow 0 fun γ => orVR (f γ) (g γ)) :=
  (pe_or ha hb).impD fun σ H Q ⟨B, γ, I, q⟩ => ⟨B, γ, I, q.orV.imp fun c q v B1 H1 x1 hv => by
    obtain ⟨k, rfl, q⟩ := q
    refine ⟨k, hv.bool, ?_⟩
    cases k with
    | false => exact ⟨B1, γ, I.mono x1, RsP.mono x1 (show RsP G σ B H (g γ) _ from q) fun d q v2 B2 H2 x2 h2 => q v2 B2 H2 (x1.trans x2) h2⟩
    | true => exact (show ∀ v B' H', _ from q) _ B1 H1 x1 (.bl _)⟩
def notD : D → Option D
  | .bool b => some (.bool (!b))
  | _ => none
theorem d_not (ha : PE X a (cV G ow 1 f)) : PE X (.UnaryOp .Not a pos) (cV G ow 0 (b1 f notD)) := (pe_not ha).impD fun σ H Q ⟨B, γ, I, q⟩ => ⟨B, γ, I, q.bind.imp fun d q v B1 H1 x1 hv => by
  obtain ⟨z, ez, q⟩ := q.oR
  unfold notD at ez
  split at ez
  · cases ez
    exact ⟨_, hv.bool, q _ B1 H1 x1 (.bl _)⟩
  · cases ez⟩
theorem d_if {c : Expr} (hc : PT X c (cT G ow t)) (ha : PE X a (cV G ow k f)) (hb : PE X b (cV G ow k g)) : PE X (.IfExp c a b pos) (cV G ow k fun γ => (t γ).bind fun z => if z = true then f γ else g γ) :=
  (pe_ifExp hc ha hb).impD fun σ H Q ⟨B, γ, I, q⟩ => ⟨B, γ, I, q.bind.imp fun c q B1 H1 x1 => by
    cases c with
    | true => exact ⟨B1, γ, I.mono x1, RsP.mono x1 (show RsP G σ B H (f γ) _ from q) fun d q v2 B2 H2 x2 h2 => q v2 B2 H2 (x1.trans x2) h2⟩
    | false => exact ⟨B1, γ, I.mono x1, RsP.mono x1 (show RsP G σ B H (g γ) _ from q) fun d q v2 B2 H2 x2 h2 => q v2 B2 H2 (x1.trans x2) h2⟩⟩
theorem n_if {c : Expr} {f g : Env → Rs (List D)} (hc : PT X c (cT G ow t)) (ha : PE X a (cN G ow f)) (hb : PE X b (cN G ow g)) : PE X (.IfExp c a b pos) (cN G ow fun γ => (t γ).bind fun z => if z = true then f γ else g γ) :=
  (pe_ifExp hc ha hb).impD fun σ H Q ⟨B, γ, I, q⟩ => ⟨B, γ, I, q.bind.imp fun c q B1 H1 x1 => by
    cases c with
    | true => exact ⟨B1, γ, I.mono x1, RsP.mono x1 (show RsP G σ B H (f γ) _ from q) fun d q p xs B2 H2 x2 h2 h3 h4 h5 => q p xs B2 H2 (x1.trans x2) (x1.h.free h2) h3 h4 h5⟩
    | false => exact ⟨B1, γ, I.mono x1, RsP.mono x1 (show RsP G σ B H (g γ) _ from q) fun d q p xs B2 H2 x2 h2 h3 h4 h5 => q p xs B2 H2 (x1.trans x2) (x1.h.free h2) h3 h4 h5⟩⟩
end
end DL
set_option Elab.async false
set_option linter.all false
set_option maxRecDepth 100000
set_option maxHeartbeats 4000000
/-! The data layer: statements, loops, comprehensions, calls. -/
namespace DL
open PySem PySem.Spec PyProof.Rows L2

/-! ### statements -/
def OutP (G : Gd) (owN owL : List Nat) (B : Hp) (J : Ends) : Out → Prop
  | .nx γ => ∀ B' σ' H', Same B B' → EnvR G owN B' H' σ' γ → J.nx σ' H'
  | .rt d => ∀ v B' H', Same B B' → Ext G.B G.H B' H' → Dn G.K B' v d → J.rt v H'
  | .bk γ => ∀ B' σ' H', Same B B' → EnvR G owL B' H' σ' γ → J.bk σ' H'
  | .ct γ => ∀ B' σ' H', Same B B' → EnvR G owL B' H' σ' γ → J.ct σ' H'
  | .er c fs γ => ∀ C dd B' σ' H' fs', Same B B' → EnvR G [] B' H' σ' γ → G.mg c = some (.ref C) → H' dd = some (.xd fs') → FR G B' fs' fs → G.W (.ref C) (some dd) σ' H'
  | .no => False
def cS (G : Gd) (ow owN owL : List Nat) (f : Env → Out) : TS := fun J σ H => ∃ B γ, EnvR G ow B H σ γ ∧ OutP G owN owL B J (f γ)
section
variable {G : Gd} {ow owN owL ow1 : List Nat} {B B' H H' : Hp} {J : Ends} {σ : L2.St} {γ : Env} {α : Type}
theorem OutP.mono {o : Out} (s : Same B B') (h : OutP G owN owL B J o) : OutP G owN owL B' J o := by
  cases o with
  | nx γ => exact fun B2 σ' H' s2 I => h B2 σ' H' (s.trans s2) I
  | rt d => exact fun v B2 H' s2 x hv => h v B2 H' (s.trans s2) x hv
  | bk γ => exact fun B2 σ' H' s2 I => h B2 σ' H' (s.trans s2) I
  | ct γ => exact fun B2 σ' H' s2 I => h B2 σ' H' (s.trans s2) I
  | er c fs γ => exact fun C dd B2 σ' H' fs' s2 I => h C dd B2 σ' H' fs' (s.trans s2) I
  | no => exact h
def liftS (r : Rs α) (γ : Env) (k : α → Out) : Out := match r with
  | .ok a => k a
  | .er c fs => .er c fs γ
  | .no => .no
@[simp] theorem liftS_ok (a : α) (γ : Env) (k : α → Out) : liftS (.ok a) γ k = k a := Eq.trans (Eq.refl _) rfl
@[simp] theorem liftS_er (c : Str) (fs : List (Str × D)) (γ : Env) (k : α → Out) : liftS (.er c fs) γ k = .er c fs γ := Eq.trans (Eq.refl _) rfl
@[simp] theorem liftS_no (γ : Env) (k : α → Out) : liftS (.no : Rs α) γ k = .no := Eq.trans (Eq.refl _) rfl
theorem OutP.lift {r : Rs α} {k : α → Out} (I : EnvR G ow B H σ γ) (h : OutP G owN owL B J (liftS r γ k)) : RsP G σ B H r fun a => OutP G owN owL B J (k a) := by
  cases r with
  | ok a => exact h
  | er c fs =>
    intro C dd B1 H1 fs' e h1 h2 h3
    obtain ⟨B2, s2, I2⟩ := (I.mono e).allF
    exact h C dd B2 σ H1 fs' (e.b.trans s2) I2 h1 h2 (Paired.mapP h3 fun _ _ z => ⟨z.1, z.2.mono s2⟩)
  | no => exact h
theorem _root_.L2.PS.impD {X : Cx} {st : Stmt} {t t' : TS} (h : PS X st t) (hi : ∀ J σ H, t' J σ H → t J σ H) : PS X st t' := ⟨fun pins s σ H J I q => h.run pins s σ H J I (hi J σ H q)⟩
theorem _root_.L2.PSs.impD {X : Cx} {st : List Stmt} {t t' : TS} (h : PSs X st t) (hi : ∀ J σ H, t' J σ H → t J σ H) : PSs X st t' := ⟨fun pins s σ H J I q => h.run pins s σ H J I (hi J σ H q)⟩
end
def seqS (f g : Env → Out) : Env → Out := fun γ => match f γ with
  | .nx γ' => g γ'
  | .rt d => .rt d
  | .bk γ => .bk γ
  | .ct γ => .ct γ
  | .er c fs γ => .er c fs γ
  | .no => .no
section
variable {X : Cx} {st : Stmt} {rest : List Stmt} {e : Expr} {pos : Pos} {G : Gd} {ow owN owL ow1 : List Nat} {f g : Env → Out} {fe : Env → Rs D}
theorem s_nil : PSs X [] (cS G ow ow owL fun γ => .nx γ) := pss_nil.impD fun J σ H ⟨B, γ, I, q⟩ => q B σ H (.refl _) I
theorem s_one (h : PS X st (cS G ow owN owL f)) : PSs X [st] (cS G ow owN owL f) := pss_one h
theorem s_cons (h : PS X st (cS G ow ow1 owL f)) (hr : PSs X rest (cS G ow1 owN owL g)) : PSs X (st :: rest) (cS G ow owN owL (seqS f g)) := (pss_cons h hr).impD fun J σ H ⟨B, γ, I, q⟩ => by
  refine ⟨B, γ, I, ?_⟩
  unfold seqS at q
  cases hf : f γ with
  | nx γ1 =>
    rw [hf] at q
    exact fun B' σ' H' s I' => ⟨B', γ1, I', OutP.mono s q⟩
  | rt d => rw [hf] at q; exact q
  | bk γ => rw [hf] at q; exact q
  | ct γ => rw [hf] at q; exact q
  | er c fs γ => rw [hf] at q; exact q
  | no => rw [hf] at q; exact q
theorem s_frz (i : Nat) (h : PS X st (cS G (ow.set i 0) owN owL f)) : PS X st (cS G ow owN owL f) := h.impD fun J σ H ⟨B, γ, I, q⟩ => by
  obtain ⟨B', s, I'⟩ := I.frz i
  exact ⟨B', γ, I', OutP.mono s q⟩
theorem ss_frz (i : Nat) (h : PSs X rest (cS G (ow.set i 0) owN owL f)) : PSs X rest (cS G ow owN owL f) := h.impD fun J σ H ⟨B, γ, I, q⟩ => by
  obtain ⟨B', s, I'⟩ := I.frz i
  exact ⟨B', γ, I', OutP.mono s q⟩
theorem s_pass : PS X (.Pass pos) (cS G ow ow owL fun γ => .nx γ) := ps_pass.impD fun J σ H ⟨B, γ, I, q⟩ => q B σ H (.refl _) I
theorem s_break : PS X (.Break pos) (cS G owL owN owL fun γ => .bk γ) := ps_break.impD fun J σ H ⟨B, γ, I, q⟩ => q B σ H (.refl _) I
theorem s_continue : PS X (.Continue pos) (cS G owL owN owL fun γ => .ct γ) := ps_continue.impD fun J σ H ⟨B, γ, I, q⟩ => q B σ H (.refl _) I
theorem s_ret (he : PE X e (cV G ow 0 fe)) : PS X (.Return (some e) pos) (cS G ow owN owL fun γ => liftS (fe γ) γ .rt) := (ps_ret he).impD fun J σ H ⟨B, γ, I, q⟩ => ⟨B, γ, I, (q.lift I).imp fun d q v B1 H1 x1 hv => q v B1 H1 x1.b (I.e.trans x1) hv⟩
theorem s_retN : PS X (.Return none pos) (cS G ow owN owL fun _ => .rt .none) := ps_retN.impD fun J σ H ⟨B, γ, I, q⟩ => q .non B H (.refl _) I.e .non
theorem s_expr (he : PE X e (cV G ow 1 fe)) (hs : swapsWith e none pos.line X.env = pure false := by rfl) : PS X (.Expr e pos) (cS G ow ow owL fun γ => liftS (fe γ) γ fun _ => .nx γ) := (ps_expr he hs).impD fun J σ H ⟨B, γ, I, q⟩ => ⟨B, γ, I, (q.lift I).imp fun d q v B1 H1 x1 hv => q B1 σ H1 x1.b (I.mono x1)⟩
def ifS (t : Env → Rs Bool) (f g : Env → Out) : Env → Out := fun γ => liftS (t γ) γ fun b => if b = true then f γ else g γ
theorem s_if {c : Expr} {a b : List Stmt} {t : Env → Rs Bool} (hc : PT X c (cT G ow t)) (ha : PSs X a (cS G ow owN owL f)) (hb : PSs X b (cS G ow owN owL g)) : PS X (.If c a b pos) (cS G ow owN owL (ifS t f g)) :=
  (ps_if hc ha hb).impD fun J σ H ⟨B, γ, I, q⟩ => ⟨B, γ, I, (OutP.lift (r := t γ) I q).imp fun d q B1 H1 x1 => by
    cases d with
    | true => exact ⟨B1, γ, I.mono x1, OutP.mono x1.b (show OutP G owN owL B J (f γ) from q)⟩
    | false => exact ⟨B1, γ, I.mono x1, OutP.mono x1.b (show OutP G owN owL B J (g γ) from q)⟩⟩
/-- a name is given a value that is kept -/
theorem s_set {ow' : List Nat} {x : Str} {p' : Pos} (i : Nat) (he : PE X e (cV G ow 0 fe)) (hN : X.N.Nodup) (hw : ow.set i 0 = ow' := by rfl) (hi : X.N[i]? = some x := by rfl) (hx : Loc X.env.scope x := by first | exact .inl rfl | exact .inr rfl) (hg : G.x = none := by rfl)
    (hs : swapsWith e (some (.Name x p')) pos.line X.env = pure false := by rfl) (hf : X.fn x = true ∨ X.env.scope.names.lookup x = some .local := by first | exact .inl rfl | exact .inr rfl | assumption) :
    PS X (.Assign [.Name x p'] e pos) (cS G ow ow' owL fun γ => liftS (fe γ) γ fun d => .nx (γ.set i (some d))) :=
  (ps_set hN hi hx he hs hf).impD fun J σ H ⟨B, γ, I, q⟩ => ⟨B, γ, I, (q.lift I).imp fun d q v B1 H1 x1 hv => by
    refine q B1 _ H1 x1.b ?_
    rw [← hw]
    exact (I.mono x1).set i hg hv⟩
/-- a name is given a new list of its own -/
theorem s_new {ow' : List Nat} {x : Str} {p' : Pos} {fn : Env → Rs (List D)} (i : Nat) (he : PE X e (cN G ow fn)) (hN : X.N.Nodup) (hw : ow.set i 1 = ow' := by rfl) (hlt : i < ow.length := by decide) (hi : X.N[i]? = some x := by rfl) (hx : Loc X.env.scope x := by first | exact .inl rfl | exact .inr rfl) (hg : G.x = none := by rfl)
    (hs : swapsWith e (some (.Name x p')) pos.line X.env = pure false := by rfl) (hf : X.fn x = true ∨ X.env.scope.names.lookup x = some .local := by first | exact .inl rfl | exact .inr rfl | assumption) :
    PS X (.Assign [.Name x p'] e pos) (cS G ow ow' owL fun γ => liftS (fn γ) γ fun ds => .nx (γ.set i (some (.list ds)))) :=
  (ps_set hN hi hx he hs hf).impD fun J σ H ⟨B, γ, I, q⟩ => ⟨B, γ, I, (q.lift I).imp fun d q p xs B1 H1 x1 hp hb hl hd => by
    refine q B1 _ H1 x1.b ?_
    rw [← hw]
    exact I.setN i hg hlt x1 hp hb hl hd⟩
/-- name op= e -/
theorem s_aug {ow' : List Nat} {x : Str} {p' : Pos} {op : Operator} {r : R2} {F : D → D → Option D} (i : Nat) (hr : HR G.K r F) (ho : OpR X (inplaceOp op) r) (he : PE X e (cV G ow 1 fe)) (hN : X.N.Nodup) (h0 : ow.getD i 0 = 0 := by rfl) (hw : ow.set i 0 = ow' := by rfl) (hi : X.N[i]? = some x := by rfl) (hx : Loc X.env.scope x := by first | exact .inl rfl | exact .inr rfl) (hg : G.x = none := by rfl)
    (hf : X.fn x = true ∨ X.env.scope.names.lookup x = some .local := by first | exact .inl rfl | exact .inr rfl | assumption) :
    PS X (.AugAssign (.Name x p') op e pos) (cS G ow ow' owL fun γ => liftS ((gE γ i).bind fun d => (fe γ).bind fun z => oR (F d z)) γ fun d => .nx (γ.set i (some d))) :=
  (ps_aug (ti := r) hN hi hx he ho hf).impD fun J σ H ⟨B, γ, I, q⟩ => by
    obtain ⟨d, e1, q⟩ := (q.lift I).bind.gE
    obtain ⟨own, h1, h2, h3⟩ := I.v
    obtain ⟨v, e2, r1⟩ := h3 i d e1
    rw [h0] at r1
    refine ⟨v, e2, B, γ, I, q.bind.imp fun z q u B1 H1 x1 hu => ?_⟩
    obtain ⟨y, ey, q⟩ := q.oR
    refine hr.run x1.s (DnF.of (Dn.mono x1.b r1)) hu ey fun w' B2 H2 x2 hw' => ?_
    refine q B2 _ H2 (x1.b.trans x2.b) ?_
    rw [← hw]
    exact (I.mono (x1.trans x2)).set i hg hw'
/-- what a slot holds as a list -/
def lsE (γ : Env) (i : Nat) : Rs (List D) := match γ[i]? with
  | some (some (.list ds)) => .ok ds
  | _ => .no
theorem RsP.lsE {G : Gd} {σ : L2.St} {B H : Hp} {γ : Env} {i : Nat} {P : List D → Prop} (h : RsP G σ B H (lsE γ i) P) : ∃ ds, γ[i]? = some (some (.list ds)) ∧ P ds := by
  unfold DL.lsE at h
  split at h
  · rename_i ds e; exact ⟨ds, e, h⟩
  · exact h.elim
/-- x.append(e) -/
def appS (i : Nat) (fe : Env → Rs D) : Env → Out := fun γ => liftS ((lsE γ i).bind fun ds => (fe γ).bind fun d => oR (if ds.length < LIM then some (ds ++ [d]) else none)) γ fun es => .nx (γ.set i (some (.list es)))
theorem s_append {x : Str} {p1 p2 p3 : Pos} (i : Nat) (he : PE X e (cV G ow 0 fe)) (hk : ow.getD i 0 = 1 := by rfl) (hi : X.N[i]? = some x := by rfl) (hv : Vis X.env.scope x := by first | exact Or.inl rfl | exact Or.inr (Or.inl rfl) | exact Or.inr (Or.inr rfl)) (hg : G.x = none := by rfl)
    (hd : (x == ("__debug__" : Str)) = false := by decide) (hcd : (x == ("__classdict__" : Str)) = false := by decide)
    (hbase : attributeBase (.Name x p1) "append" X.env (eval (.Name x p1) X.env) = eval (.Name x p1) X.env := by rfl) (hst : starEach [e] X.env = (false, eval e X.env) :: starEach [] X.env := by rfl)
    (h1 : PE X (.Name x p1) (tVar i) → PA X [e] (tCons (cV G ow 0 fe) tNil) → PE X (.Call (.Attribute (.Name x p1) "append" p2) [e] [] p3) (tBM X.K "list" rAppend (tVar i) (tCons (cV G ow 0 fe) tNil)) := by
      exact fun h1 h2 => pe_bm PySem.F.plainAttrs_list PySem.F.slot_list_append PySem.F.type_list_append mt_append h1 h2)
    (hs : swapsWith (.Call (.Attribute (.Name x p1) "append" p2) [e] [] p3) none pos.line X.env = pure false := by rfl) :
    PS X (.Expr (.Call (.Attribute (.Name x p1) "append" p2) [e] [] p3) pos) (cS G ow ow owL (appS i fe)) :=
  (ps_expr (h1 (pe_var hi hv hd hcd) (pa_cons he pa_nil hst)) hs).impD fun J σ H ⟨B, γ, I, q⟩ => by
    obtain ⟨ds, hgi, q⟩ := (OutP.lift I q).bind.lsE
    obtain ⟨p, xs, e1, e2, _⟩ := I.wr hg hk hgi
    refine ⟨.ref p, e1, .inl ⟨rfl, xs, .inl (.inl e2)⟩, B, γ, I, q.bind.imp fun d q v B1 H1 x1 hv => ?_⟩
    obtain ⟨z, ez, q⟩ := q.oR
    obtain ⟨p', xs', e1', e2', e3', wr⟩ := (I.mono x1).wr hg hk hgi
    rw [e1] at e1'
    cases e1'
    split at ez
    · rename_i hlt
      cases ez
      exact ⟨p, xs', v, rfl, rfl, e2', by rw [e3'.length]; exact lim_lt hlt, q B1 σ _ x1.b (wr _ _ (e3'.append (.cons hv .nil)))⟩
    · cases ez
/-- x.extend(e) -/
def catL (ds : List D) : D → Option (List D)
  | .list es => if ds.length + es.length ≤ LIM then some (ds ++ es) else none
  | _ => none
def extS (i : Nat) (fe : Env → Rs (List D)) : Env → Out := fun γ => liftS ((lsE γ i).bind fun ds => (fe γ).bind fun es => oR (if ds.length + es.length ≤ LIM then some (ds ++ es) else none)) γ fun es => .nx (γ.set i (some (.list es)))
theorem s_extend {x : Str} {p1 p2 p3 : Pos} {fn : Env → Rs (List D)} (i : Nat) (he : PE X e (cN G ow fn)) (hk : ow.getD i 0 = 1 := by rfl) (hi : X.N[i]? = some x := by rfl) (hv : Vis X.env.scope x := by first | exact Or.inl rfl | exact Or.inr (Or.inl rfl) | exact Or.inr (Or.inr rfl)) (hg : G.x = none := by rfl)
    (hd : (x == ("__debug__" : Str)) = false := by decide) (hcd : (x == ("__classdict__" : Str)) = false := by decide)
    (hbase : attributeBase (.Name x p1) "extend" X.env (eval (.Name x p1) X.env) = eval (.Name x p1) X.env := by rfl) (hst : starEach [e] X.env = (false, eval e X.env) :: starEach [] X.env := by rfl)
    (h1 : PE X (.Name x p1) (tVar i) → PA X [e] (tCons (cN G ow fn) tNil) → PE X (.Call (.Attribute (.Name x p1) "extend" p2) [e] [] p3) (tBM X.K "list" rExtend (tVar i) (tCons (cN G ow fn) tNil)) := by
      exact fun h1 h2 => pe_bm PySem.F.plainAttrs_list PySem.F.slot_list_extend PySem.F.type_list_extend mt_extend h1 h2)
    (hs : swapsWith (.Call (.Attribute (.Name x p1) "extend" p2) [e] [] p3) none pos.line X.env = pure false := by rfl) :
    PS X (.Expr (.Call (.Attribute (.Name x p1) "extend" p2) [e] [] p3) pos) (cS G ow ow owL (extS i fn)) :=
  (ps_expr (h1 (pe_var hi hv hd hcd) (pa_cons he pa_nil hst)) hs).impD fun J σ H ⟨B, γ, I, q⟩ => by
    obtain ⟨ds, hgi, q⟩ := (OutP.lift I q).bind.lsE
    obtain ⟨p, xs, e1, e2, _⟩ := I.wr hg hk hgi
    refine ⟨.ref p, e1, .inl ⟨rfl, xs, .inl (.inl e2)⟩, B, γ, I, q.bind.imp fun es q r ys B1 H1 x1 hr hb hl hes => ?_⟩
    obtain ⟨z, ez, q⟩ := q.oR
    obtain ⟨p', xs', e1', e2', e3', wr⟩ := (I.mono x1).wr hg hk hgi
    rw [e1] at e1'
    cases e1'
    split at ez
    · rename_i hlt
      cases ez
      exact ⟨p, r, xs', ys, rfl, rfl, e2', hl, by rw [e3'.length, hes.length]; exact lim_le hlt, q B1 σ _ x1.b (wr _ _ (e3'.append hes))⟩
    · cases ez
/-- x[i] = e -/
def putL (ds : List D) (d : D) : D → Option (List D)
  | .int k => (ixN ds.length k).map fun j => ds.set j d
  | _ => none
def putS (i : Nat) (fe fi : Env → Rs D) : Env → Out := fun γ => liftS ((fe γ).bind fun d => (lsE γ i).bind fun ds => (fi γ).bind fun k => oR (putL ds d k)) γ fun es => .nx (γ.set i (some (.list es)))
theorem s_put {x : Str} {ix : Expr} {p1 p2 : Pos} {fi : Env → Rs D} (i : Nat) (he : PE X e (cV G ow 0 fe)) (hix : PE X ix (cV G ow 1 fi)) (hk : ow.getD i 0 = 1 := by rfl) (hi : X.N[i]? = some x := by rfl) (hv : Vis X.env.scope x := by first | exact Or.inl rfl | exact Or.inr (Or.inl rfl) | exact Or.inr (Or.inr rfl)) (hg : G.x = none := by rfl)
    (hd : (x == ("__debug__" : Str)) = false := by decide) (hcd : (x == ("__classdict__" : Str)) = false := by decide)
    (h1 : PE X e (cV G ow 0 fe) → PG X (.Subscript (.Name x p1) ix p2) (gSub (tVar i) (cV G ow 1 fi) rSetL) → PS X (.Assign [.Subscript (.Name x p1) ix p2] e pos) (tAsg (cV G ow 0 fe) (gSub (tVar i) (cV G ow 1 fi) rSetL)) := by exact fun h1 h2 => ps_asg h1 h2)
    (h2 : PE X (.Name x p1) (tVar i) → PE X ix (cV G ow 1 fi) → PG X (.Subscript (.Name x p1) ix p2) (gSub (tVar i) (cV G ow 1 fi) rSetL) := by exact fun h1 h2 => pg_sub h1 h2 set_list) :
    PS X (.Assign [.Subscript (.Name x p1) ix p2] e pos) (cS G ow ow owL (putS i fe fi)) :=
  (h1 he (h2 (pe_var hi hv hd hcd) hix)).impD fun J σ H ⟨B, γ, I, q⟩ => ⟨B, γ, I, (OutP.lift I q).bind.imp fun d q v B1 H1 x1 hv => by
    obtain ⟨ds, hgi, q⟩ := q.bind.lsE
    obtain ⟨p, xs, e1, e2, _⟩ := (I.mono x1).wr hg hk hgi
    refine ⟨.ref p, e1, B1, γ, I.mono x1, q.bind.mono x1 fun k q u B2 H2 x2 hu => ?_⟩
    obtain ⟨z, ez, q⟩ := q.oR
    obtain ⟨p', xs', e1', e2', e3', wr⟩ := (I.mono (x1.trans x2)).wr hg hk hgi
    rw [e1] at e1'
    cases e1'
    unfold putL at ez
    split at ez
    · rename_i n
      cases hj : ixN ds.length n with
      | none => rw [hj] at ez; cases ez
      | some j =>
        rw [hj] at ez
        cases ez
        refine ⟨p, xs', n, j, rfl, hu.int, e2', by rw [e3'.length]; exact hj, q B2 σ _ (x1.trans x2).b (wr _ _ (e3'.set (Dn.mono x2.b hv) j))⟩
    · cases ez⟩
/-- x.pop() as a statement -/
def popS (i : Nat) : Env → Out := fun γ => liftS ((lsE γ i).bind fun ds => oR (if ds.isEmpty = false then some ds.dropLast else none)) γ fun es => .nx (γ.set i (some (.list es)))
theorem lastV {K : PySem.W.Frag} {H : Hp} {xs : List V} {ds : List D} (h : DnAll K H xs ds) (e : ds.isEmpty = false) : ∃ y d, xs[xs.length - 1]? = some y ∧ ds.getLast? = some d ∧ Dn K H y d := by
  have hl : ds.length - 1 < ds.length := by
    cases ds with
    | nil => cases e
    | cons _ _ => simp
  obtain ⟨x, h1, h2⟩ := h.get (List.getElem?_eq_getElem hl)
  exact ⟨x, ds[ds.length - 1], by rw [h.length]; exact h1, by rw [List.getLast?_eq_getElem?, List.getElem?_eq_getElem hl], h2⟩
theorem s_pop {x : Str} {p1 p2 p3 : Pos} (i : Nat) (hk : ow.getD i 0 = 1 := by rfl) (hi : X.N[i]? = some x := by rfl) (hv : Vis X.env.scope x := by first | exact Or.inl rfl | exact Or.inr (Or.inl rfl) | exact Or.inr (Or.inr rfl)) (hg : G.x = none := by rfl)
    (hd : (x == ("__debug__" : Str)) = false := by decide) (hcd : (x == ("__classdict__" : Str)) = false := by decide)
    (h1 : PE X (.Name x p1) (tVar i) → PE X (.Call (.Attribute (.Name x p1) "pop" p2) [] [] p3) (tBM0 X.K "list" rPop (tVar i)) := by
      exact fun h1 => pe_bm0 PySem.F.plainAttrs_list PySem.F.slot_list_pop PySem.F.type_list_pop mt_pop h1)
    (hs : swapsWith (.Call (.Attribute (.Name x p1) "pop" p2) [] [] p3) none pos.line X.env = pure false := by rfl) :
    PS X (.Expr (.Call (.Attribute (.Name x p1) "pop" p2) [] [] p3) pos) (cS G ow ow owL (popS i)) :=
  (ps_expr (h1 (pe_var hi hv hd hcd)) hs).impD fun J σ H ⟨B, γ, I, q⟩ => by
    obtain ⟨ds, hgi, q⟩ := (OutP.lift I q).bind.lsE
    obtain ⟨z, ez, q⟩ := q.oR
    obtain ⟨p, xs, e1, e2, e3, wr⟩ := I.wr hg hk hgi
    split at ez
    · rename_i hne
      cases ez
      obtain ⟨y, d, y1, y2, y3⟩ := lastV e3 hne
      exact ⟨.ref p, e1, .inl ⟨rfl, xs, .inl (.inl e2)⟩, p, xs, y, rfl, rfl, e2, y1, q B σ _ (.refl _) (wr _ _ e3.dropLast)⟩
    · cases ez
/-- y = x.pop() -/
def popSet (i j : Nat) : Env → Out := fun γ => liftS ((lsE γ i).bind fun ds => oR (ds.getLast?.map fun d => (ds.dropLast, d))) γ fun es => .nx ((γ.set i (some (.list es.1))).set j (some es.2))
theorem s_popSet {ow' : List Nat} {x y : Str} {p1 p2 p3 p' : Pos} (i j : Nat) (hij : i ≠ j) (hN : X.N.Nodup) (hk : ow.getD i 0 = 1 := by rfl) (hw : ow.set j 0 = ow' := by rfl) (hi : X.N[i]? = some x := by rfl) (hj : X.N[j]? = some y := by rfl) (hv : Vis X.env.scope x := by first | exact Or.inl rfl | exact Or.inr (Or.inl rfl) | exact Or.inr (Or.inr rfl)) (hx : Loc X.env.scope y := by first | exact .inl rfl | exact .inr rfl) (hg : G.x = none := by rfl)
    (hd : (x == ("__debug__" : Str)) = false := by decide) (hcd : (x == ("__classdict__" : Str)) = false := by decide)
    (h1 : PE X (.Name x p1) (tVar i) → PE X (.Call (.Attribute (.Name x p1) "pop" p2) [] [] p3) (tBM0 X.K "list" rPop (tVar i)) := by
      exact fun h1 => pe_bm0 PySem.F.plainAttrs_list PySem.F.slot_list_pop PySem.F.type_list_pop mt_pop h1)
    (hs : swapsWith (.Call (.Attribute (.Name x p1) "pop" p2) [] [] p3) (some (.Name y p')) pos.line X.env = pure false := by rfl) (hf : X.fn y = true ∨ X.env.scope.names.lookup y = some .local := by first | exact .inl rfl | exact .inr rfl | assumption) :
    PS X (.Assign [.Name y p'] (.Call (.Attribute (.Name x p1) "pop" p2) [] [] p3) pos) (cS G ow ow' owL (popSet i j)) :=
  (ps_set hN hj hx (h1 (pe_var hi hv hd hcd)) hs hf).impD fun J σ H ⟨B, γ, I, q⟩ => by
    obtain ⟨ds, hgi, q⟩ := (OutP.lift I q).bind.lsE
    obtain ⟨z, ez, q⟩ := q.oR
    obtain ⟨p, xs, e1, e2, e3, wr⟩ := I.wr hg hk hgi
    cases hl : ds.getLast? with
    | none => rw [hl] at ez; cases ez
    | some d =>
      rw [hl] at ez
      cases ez
      have hne : ds.isEmpty = false := by cases ds with
        | nil => cases hl
        | cons _ _ => rfl
      obtain ⟨y0, d', y1, y2, y3⟩ := lastV e3 hne
      rw [hl] at y2
      cases y2
      refine ⟨.ref p, e1, .inl ⟨rfl, xs, .inl (.inl e2)⟩, p, xs, y0, rfl, rfl, e2, y1, q B _ _ (.refl _) ?_⟩
      rw [← hw]
      exact (wr _ _ e3.dropLast).set j hg y3
end

/-! ### targets and what is walked -/
def cG (G : Gd) (ow vs : List Nat) (t : D → Env → Option Env) : TG := fun v σ H Q => ∃ B γ d γ', EnvR G ow B H σ γ ∧ Dn G.K B v d ∧ t d γ = some γ' ∧ ∀ σ', wipe σ' vs = wipe σ vs → EnvR G ow B H σ' γ' → Q σ' H
def cGs (G : Gd) (ow vs : List Nat) (t : List D → Env → Option Env) : TGs := fun us σ H Q => ∃ B γ ds γ', EnvR G ow B H σ γ ∧ DnAll G.K B us ds ∧ t ds γ = some γ' ∧ ∀ σ', wipe σ' vs = wipe σ vs → EnvR G ow B H σ' γ' → Q σ' H
theorem _root_.L2.PG.impD {X : Cx} {e : Expr} {t t' : TG} (h : PG X e t) (hi : ∀ v σ H Q, t' v σ H Q → t v σ H Q) : PG X e t' := ⟨fun pins s σ H v u Q I r q => h.run pins s σ H v u Q I r (hi v σ H Q q)⟩
theorem _root_.L2.PGs.impD {X : Cx} {e : List Expr} {t t' : TGs} (h : PGs X e t) (hi : ∀ v σ H Q, t' v σ H Q → t v σ H Q) : PGs X e t' := ⟨fun pins s σ H v u Q I r q => h.run pins s σ H v u Q I r (hi v σ H Q q)⟩
theorem _root_.L2.PI.impD {X : Cx} {tg e : Expr} {t t' : TI} (h : PI X tg e t) (hi : ∀ σ H Q, t' σ H Q → t σ H Q) : PI X tg e t' := ⟨fun pins s σ H Q I q => h.run pins s σ H Q I (hi σ H Q q)⟩
def tgN (i : Nat) : D → Env → Option Env := fun d γ => some (γ.set i (some d))
def tgNil : List D → Env → Option Env := fun ds γ => match ds with
  | [] => some γ
  | _ => none
def tgCons (t : D → Env → Option Env) (u : List D → Env → Option Env) : List D → Env → Option Env := fun ds γ => match ds with
  | d :: r => (t d γ).bind (u r)
  | [] => none
def tgT (n : Nat) (u : List D → Env → Option Env) : D → Env → Option Env := fun d γ => match d with
  | .tuple ds => if ds.length = n then u ds γ else none
  | _ => none
section
variable {X : Cx} {e tg iter : Expr} {pos : Pos} {G : Gd} {ow owN owL vs : List Nat}
theorem wipe_get (σ : L2.St) (j : Nat) : ∀ vs : List Nat, (wipe σ vs)[j]? = if j ∈ vs then (σ[j]?).map (fun _ => none) else σ[j]?
  | [] => by simp [wipe]
  | v :: vs => by
    show ((wipe σ vs).set v none)[j]? = _
    by_cases e : j = v
    · subst e
      rw [if_pos List.mem_cons_self]
      by_cases hl : j < σ.length
      · rw [List.getElem?_set_self (by rw [wipe_length]; exact hl), List.getElem?_eq_getElem hl]; rfl
      · rw [List.getElem?_eq_none (by rw [List.length_set, wipe_length]; omega), List.getElem?_eq_none (by omega)]; rfl
    · rw [List.getElem?_set_ne (Ne.symm e), wipe_get σ j vs]
      by_cases h : j ∈ vs
      · rw [if_pos h, if_pos (List.mem_cons_of_mem _ h)]
      · rw [if_neg h, if_neg (by simp [e, h])]
theorem wipe_set (σ : L2.St) {i : Nat} (x : Option V) {vs : List Nat} (h : i ∈ vs) : wipe (σ.set i x) vs = wipe σ vs := by
  apply List.ext_getElem?
  intro j
  rw [wipe_get, wipe_get]
  by_cases hj : j ∈ vs
  · rw [if_pos hj, if_pos hj]
    by_cases e : j = i
    · subst e
      by_cases hl : j < σ.length
      · rw [List.getElem?_set_self hl, List.getElem?_eq_getElem hl]; rfl
      · rw [List.getElem?_eq_none (by rw [List.length_set]; omega), List.getElem?_eq_none (by omega)]
    · rw [List.getElem?_set_ne (Ne.symm e)]
  · rw [if_neg hj, if_neg hj, List.getElem?_set_ne (fun z => hj (by rw [← z]; exact h))]
theorem wipe_wipe (σ : L2.St) (vs : List Nat) : wipe (wipe σ vs) vs = wipe σ vs := by
  apply List.ext_getElem?
  intro j
  rw [wipe_get, wipe_get]
  by_cases hj : j ∈ vs
  · rw [if_pos hj, if_pos hj]
    cases σ[j]? <;> rfl
  · rw [if_neg hj, if_neg hj]
theorem g_name {x : Str} (i : Nat) (hN : X.N.Nodup) (hm : i ∈ vs := by decide) (hw : ow.set i 0 = ow := by rfl) (hi : X.N[i]? = some x := by rfl) (hx : Loc X.env.scope x := by first | exact .inl rfl | exact .inr rfl) (hg : G.x = none := by rfl) (hf : X.fn x = true ∨ X.env.scope.names.lookup x = some .local := by first | exact .inl rfl | exact .inr rfl | assumption) :
    PG X (.Name x pos) (cG G ow vs (tgN i)) := (pg_name hN hi hx hf).impD fun v σ H Q ⟨B, γ, d, γ', I, hv, ht, q⟩ => by
  cases ht
  refine q _ (wipe_set _ _ hm) ?_
  have := I.set i hg hv
  rw [hw] at this
  exact this
theorem gs_nil : PGs X [] (cGs G ow vs tgNil) := pgs_nil.impD fun v σ H Q ⟨B, γ, ds, γ', I, hv, ht, q⟩ => by
  unfold tgNil at ht
  split at ht
  · cases ht
    cases hv
    exact ⟨rfl, q _ rfl I⟩
  · cases ht
theorem gs_cons {es : List Expr} {t : D → Env → Option Env} {u : List D → Env → Option Env} (h1 : PG X e (cG G ow vs t)) (h2 : PGs X es (cGs G ow vs u)) (hs : (assignEach (e :: es) X.env).map (·.2) = assign e X.env :: (assignEach es X.env).map (·.2) := by rfl) :
    PGs X (e :: es) (cGs G ow vs (tgCons t u)) := (pgs_cons h1 h2 hs).impD fun v σ H Q ⟨B, γ, ds, γ', I, hv, ht, q⟩ => by
  unfold tgCons at ht
  split at ht
  · rename_i d r
    cases hv with
    | cons a b =>
      cases ht1 : t d γ with
      | none => rw [ht1] at ht; cases ht
      | some γ1 =>
        rw [ht1] at ht
        exact ⟨_, _, rfl, B, γ, d, γ1, I, a, ht1, fun σ1 w1 I1 => ⟨B, γ1, r, γ', I1, b, ht, fun σ2 w2 => q σ2 (w2.trans w1)⟩⟩
  · cases ht
theorem g_tup {es : List Expr} {kk n : Nat} {u : List D → Env → Option Env} (h : PGs X es (cGs G ow vs u)) (hc : X.calm = true := by rfl) (hn : (assignEach es X.env).length = n := by rfl) (hst : (assignEach es X.env).findIdx? (·.1) = none := by rfl) (hK : X.K = G.K := by rfl) :
    PG X (.Tuple es kk pos) (cG G ow vs (tgT n u)) := (pg_tup hc h hn hst).impD fun v σ H Q ⟨B, γ, d, γ', I, hv, ht, q⟩ => by
  unfold tgT at ht
  split at ht
  · rename_i ds
    split at ht
    · rename_i hl
      cases hv with
      | tup a b => exact ⟨_, _, rfl, hK ▸ .inl (.inl (I.s _ _ a)), by rw [b.length]; exact hl, B, γ, ds, γ', I, b, ht, q⟩
    · cases ht
  · cases ht
/-- the iterator gives these, one after the other -/
def JW (K : PySem.W.Frag) (B : Hp) (J : It) (ds : List D) : Prop := ∀ B' H', Same B B' → Same B' H' → ∀ i : Nat, (∀ d, ds[i]? = some d → J.go i H' ∧ ∀ x H2, J.yld i H' x H2 → ∃ B2, Ext B' H' B2 H2 ∧ Dn K B2 x d) ∧ (ds.length ≤ i → J.stop i H')
def cI (G : Gd) (ow : List Nat) (f : Env → Rs (List D)) : TI := fun σ H R => ∃ B γ, EnvR G ow B H σ γ ∧ RsP G σ B H (f γ) fun ds => ∀ J B' H', Ext B H B' H' → JW G.K B' J ds → R J H'
variable {f g : Env → Rs D}
def seqO : D → Option (List D)
  | .list ds => some ds
  | .tuple ds => some ds
  | _ => none
theorem jw_list {K : PySem.W.Frag} {B : Hp} {a : Addr} {xs : List V} {ds : List D} (h : SqL K B a xs) (hd : DnAll K B xs ds) : JW K B (Itl K a) ds := fun B' H' s s' i => by
  have hS : SqL K H' a xs := (s.trans s').seq h
  refine ⟨fun d e => ?_, fun hl => ⟨xs, hS, by rw [hd.length]; exact hl⟩⟩
  obtain ⟨x, e1, e2⟩ := hd.get e
  refine ⟨⟨xs, x, hS, e1⟩, fun y H2 hy => ?_⟩
  obtain ⟨rfl, hy⟩ := hy
  refine ⟨B', .refl s', ?_⟩
  have := hy xs hS
  rw [e1] at this
  cases this
  exact e2.mono s
theorem jw_tup {K : PySem.W.Frag} {B : Hp} {a : Addr} {xs : List V} {ds : List D} (h : SqT K B a xs) (hd : DnAll K B xs ds) : JW K B (Itt K a) ds := fun B' H' s s' i => by
  have hS : SqT K H' a xs := same_t (s.trans s') h
  refine ⟨fun d e => ?_, fun hl => ⟨xs, hS, by rw [hd.length]; exact hl⟩⟩
  obtain ⟨x, e1, e2⟩ := hd.get e
  refine ⟨⟨xs, x, hS, e1⟩, fun y H2 hy => ?_⟩
  obtain ⟨rfl, hy⟩ := hy
  refine ⟨B', .refl s', ?_⟩
  have := hy xs hS
  rw [e1] at this
  cases this
  exact e2.mono s
theorem PI.or {wi wj : TI} (h1 : PI X tg iter wi) (h2 : PI X tg iter wj) : PI X tg iter fun σ H R => wi σ H R ∨ wj σ H R := ⟨fun pins s σ H R I h => h.elim (h1.run pins s σ H R I) (h2.run pins s σ H R I)⟩
/-- over a list -/
def lstO : D → Option (List D)
  | .list ds => some ds
  | .dict [(.none, .list ds)] => some ds
  | _ => none
def tupO : D → Option (List D)
  | .tuple ds => some ds
  | _ => none
theorem i_list (ha : PE X iter (cV G ow 0 f)) (hK : X.K = G.K := by rfl) : PI X tg iter (cI G ow fun γ => (f γ).bind fun d => oR (lstO d)) := (pi_list ha).impD fun σ H R ⟨B, γ, I, q⟩ => ⟨B, γ, I, q.bind.imp fun d q v B1 H1 x1 hv => by
  obtain ⟨z, ez, q⟩ := q.oR
  unfold lstO at ez
  split at ez
  · cases ez
    cases hv with
    | lst a b =>
      rw [hK]
      exact ⟨_, rfl, ⟨_, .inl (same_rd x1.s a)⟩, q _ B1 H1 x1 (jw_list (.inl a) b)⟩
  · cases ez
    obtain ⟨p, us, rfl, h0, h1, h2⟩ := DnF.rol (k := 0) x1.s hv
    rw [hK]
    exact ⟨_, rfl, ⟨_, h1⟩, q _ B1 H1 x1 (jw_list h0 h2)⟩
  · cases ez⟩
theorem i_tup (ha : PE X iter (cV G ow 0 f)) (hK : X.K = G.K := by rfl) : PI X tg iter (cI G ow fun γ => (f γ).bind fun d => oR (tupO d)) := (pi_tup ha).impD fun σ H R ⟨B, γ, I, q⟩ => ⟨B, γ, I, q.bind.imp fun d q v B1 H1 x1 hv => by
  obtain ⟨z, ez, q⟩ := q.oR
  unfold tupO at ez
  split at ez
  · cases ez
    cases hv with
    | tup a b =>
      rw [hK]
      exact ⟨_, rfl, ⟨_, .inl (.inl (x1.s _ _ a))⟩, q _ B1 H1 x1 (jw_tup (.inl (.inl a)) b)⟩
  · cases ez⟩
/-- over a range -/
def rgD (a b : Int) : List D := (List.range (b - a).toNat).map fun k : Nat => PyData.int (a + k)
theorem jw_rng {K : PySem.W.Frag} {B : Hp} {a : Int} {n : Nat} : JW K B (Itr a n) ((List.range n).map fun k : Nat => PyData.int (a + k)) := fun B' H' s s' i => by
  refine ⟨fun d e => ?_, fun hl => ?_⟩
  · rw [List.getElem?_map] at e
    by_cases hi : i < n
    · rw [List.getElem?_range hi] at e
      cases e
      refine ⟨hi, fun x H2 hx => ?_⟩
      obtain ⟨rfl, rfl⟩ := hx
      exact ⟨B', .refl s', .int _⟩
    · rw [List.getElem?_eq_none (by simpa using hi)] at e
      cases e
  · show n ≤ i
    simpa using hl
abbrev RLIM : Int := 1000000000000000000
def rg1 : List D → Option (List D)
  | [.int j] => if -RLIM ≤ j ∧ j ≤ RLIM then some (rgD 0 j) else none
  | _ => none
def rg2 : List D → Option (List D)
  | [.int i, .int j] => if (-RLIM ≤ i ∧ i ≤ RLIM) ∧ (-RLIM ≤ j ∧ j ≤ RLIM) then some (rgD i j) else none
  | _ => none
variable {fs : Env → Rs (List D)}
theorem i_rg1 {a : Expr} {p : Pos} (ha : PA X [a] (cA G ow 1 fs)) (hg : Gl X "range" := by rfl) (hm : X.mg "range" = none) (hs : starEach [a] X.env = [(false, eval a X.env)] := by rfl) :
    PI X tg (.Call (.Name "range" p) [a] [] pos) (cI G ow fun γ => (fs γ).bind fun ds => oR (rg1 ds)) := (pi_range1 hg hm ha hs).impD fun σ H R ⟨B, γ, I, q⟩ => ⟨B, γ, I, q.bind.imp fun ds q vs B1 H1 x1 hvs => by
  obtain ⟨z, ez, q⟩ := q.oR
  unfold rg1 at ez
  split at ez
  · rename_i j
    split at ez
    · rename_i hc
      cases ez
      cases hvs with
      | cons h t =>
        cases t
        refine ⟨j, by rw [DnF.int h], Int.le_trans (by decide) hc.1, Int.lt_of_le_of_lt hc.2 (by decide), q _ B1 H1 x1 ?_⟩
        show JW _ _ _ (rgD 0 j)
        unfold rgD
        rw [Int.sub_zero]
        exact jw_rng
    · cases ez
  · cases ez⟩
theorem i_rg2 {a b : Expr} {p : Pos} (ha : PA X [a, b] (cA G ow 1 fs)) (hg : Gl X "range" := by rfl) (hm : X.mg "range" = none) (hs : starEach [a, b] X.env = [(false, eval a X.env), (false, eval b X.env)] := by rfl) (hs2 : starEach [b] X.env = [(false, eval b X.env)] := by rfl) :
    PI X tg (.Call (.Name "range" p) [a, b] [] pos) (cI G ow fun γ => (fs γ).bind fun ds => oR (rg2 ds)) := (pi_range2 hg hm ha hs hs2).impD fun σ H R ⟨B, γ, I, q⟩ => ⟨B, γ, I, q.bind.imp fun ds q vs B1 H1 x1 hvs => by
  obtain ⟨z, ez, q⟩ := q.oR
  unfold rg2 at ez
  split at ez
  · rename_i i j
    split at ez
    · rename_i hc
      cases ez
      cases hvs with
      | cons h t =>
        cases t with
        | cons h' t' =>
          cases t'
          exact ⟨i, j, by rw [DnF.int h, DnF.int h'], ⟨Int.le_trans (by decide) hc.1.1, Int.lt_of_le_of_lt hc.1.2 (by decide), Int.le_trans (by decide) hc.2.1, Int.lt_of_le_of_lt hc.2.2 (by decide)⟩, q _ B1 H1 x1 jw_rng⟩
    · cases ez
  · cases ez⟩
/-- zip of two lists -/
def zipD : List D → Option (List D)
  | [.list xs, .list ys] => some ((xs.zip ys).map fun p => .tuple [p.1, p.2])
  | _ => none
theorem jw_zip {K : PySem.W.Frag} {B : Hp} {a b : Addr} {xs ys : List V} {ds es : List D} (h : Rd B a (.lst xs)) (hd : DnAll K B xs ds) (h' : Rd B b (.lst ys)) (hd' : DnAll K B ys es) : JW K B (Itz K a b) ((ds.zip es).map fun p => .tuple [p.1, p.2]) := fun B' H' s s' i => by
  have hS : SqL K H' a xs := .inl (same_rd (s.trans s') h)
  have hS' : SqL K H' b ys := .inl (same_rd (s.trans s') h')
  refine ⟨fun d e => ?_, fun hl => ⟨xs, ys, hS, hS', ?_⟩⟩
  · rw [List.getElem?_map, Option.map_eq_some_iff] at e
    obtain ⟨z, ez, rfl⟩ := e
    obtain ⟨z1, z2⟩ := List.getElem?_zip_eq_some.mp ez
    obtain ⟨u1, u2, u3⟩ := hd.get z1
    obtain ⟨w1, w2, w3⟩ := hd'.get z2
    refine ⟨⟨xs, ys, u1, w1, hS, hS', u2, w2⟩, fun y H2 hy => ?_⟩
    obtain ⟨T, x1, y1, rfl, hT, rfl, k1, k2⟩ := hy
    have e1 := k1 xs hS
    have e2 := k2 ys hS'
    rw [u2] at e1
    rw [w2] at e2
    cases e1
    cases e2
    have sn : Same B' (upd B' T (.tup [u1, w1])) := same_new (same_none s' hT)
    exact ⟨upd B' T (.tup [u1, w1]), .new s' hT, .tup upd_same (.cons (u3.mono (s.trans sn)) (.cons (w3.mono (s.trans sn)) .nil))⟩
  · rw [List.length_map, List.length_zip] at hl
    rw [hd.length, hd'.length]
    omega
theorem i_zip {a b : Expr} {p tpos : Pos} {elts : List Expr} {kk : Nat} (ha : PA X [a, b] (cA G ow 0 fs)) (hg : Gl X "zip" := by rfl) (hm : X.mg "zip" = none) (hs : starEach [a, b] X.env = (false, eval a X.env) :: starEach [b] X.env := by rfl) (hpl : (backTo pos (starEach [b] X.env)).any (·.1) = false := by rfl) (hK : X.K = G.K := by rfl) :
    PI X (.Tuple elts kk tpos) (.Call (.Name "zip" p) [a, b] [] pos) (cI G ow fun γ => (fs γ).bind fun ds => oR (zipD ds)) := (pi_zip hg hm ha hs hpl).impD fun σ H R ⟨B, γ, I, q⟩ => ⟨B, γ, I, q.bind.imp fun ds q vs B1 H1 x1 hvs => by
  obtain ⟨z, ez, q⟩ := q.oR
  unfold zipD at ez
  split at ez
  · rename_i xs ys
    cases ez
    cases hvs with
    | cons h t =>
      cases t with
      | cons h' t' =>
        cases t'
        cases (show Dn G.K B1 _ _ from h) with
        | lst r1 a1 =>
          cases (show Dn G.K B1 _ _ from h') with
          | lst r2 a2 =>
            rw [hK]
            exact ⟨_, _, _, _, rfl, .inl (same_rd x1.s r1), .inl (same_rd x1.s r2), q _ B1 H1 x1 (jw_zip r1 a1 r2 a2)⟩
  · cases ez⟩
/-- enumerate of a list -/
def enumD : List D → Option (List D)
  | [.list xs] => some ((xs.zipIdx).map fun p => .tuple [.int (p.2 : Nat), p.1])
  | _ => none
theorem jw_enum {K : PySem.W.Frag} {B : Hp} {a : Addr} {xs : List V} {ds : List D} (h : Rd B a (.lst xs)) (hd : DnAll K B xs ds) : JW K B (Ite K a) ((ds.zipIdx).map fun p => .tuple [.int (p.2 : Nat), p.1]) := fun B' H' s s' i => by
  have hS : SqL K H' a xs := .inl (same_rd (s.trans s') h)
  refine ⟨fun d e => ?_, fun hl => ⟨xs, hS, ?_⟩⟩
  · rw [List.getElem?_map, List.getElem?_zipIdx, Option.map_map, Option.map_eq_some_iff] at e
    obtain ⟨z, ez, rfl⟩ := e
    obtain ⟨u1, u2, u3⟩ := hd.get ez
    refine ⟨⟨xs, u1, hS, u2⟩, fun y H2 hy => ?_⟩
    obtain ⟨T, x1, rfl, hT, rfl, k1⟩ := hy
    have e1 := k1 xs hS
    rw [u2] at e1
    cases e1
    have sn : Same B' (upd B' T (.tup [.int (i : Nat), u1])) := same_new (same_none s' hT)
    refine ⟨upd B' T (.tup [.int (i : Nat), u1]), .new s' hT, ?_⟩
    show Dn _ _ _ (.tuple [.int ((0 + i : Nat) : Int), z])
    rw [Nat.zero_add]
    exact .tup upd_same (.cons (.int _) (.cons (u3.mono (s.trans sn)) .nil))
  · rw [List.length_map, List.length_zipIdx] at hl
    rw [hd.length]
    exact hl
theorem i_enum {a : Expr} {p tpos : Pos} {elts : List Expr} {kk : Nat} (ha : PA X [a] (cA G ow 0 fs)) (hg : Gl X "enumerate" := by rfl) (hm : X.mg "enumerate" = none) (hs : starEach [a] X.env = [(false, eval a X.env)] := by rfl) (hK : X.K = G.K := by rfl) :
    PI X (.Tuple elts kk tpos) (.Call (.Name "enumerate" p) [a] [] pos) (cI G ow fun γ => (fs γ).bind fun ds => oR (enumD ds)) := (pi_enum hg hm ha hs).impD fun σ H R ⟨B, γ, I, q⟩ => ⟨B, γ, I, q.bind.imp fun ds q vs B1 H1 x1 hvs => by
  obtain ⟨z, ez, q⟩ := q.oR
  unfold enumD at ez
  split at ez
  · rename_i xs
    cases ez
    cases hvs with
    | cons h t =>
      cases t
      cases (show Dn G.K B1 _ _ from h) with
      | lst r1 a1 =>
        rw [hK]
        exact ⟨_, _, rfl, .inl (same_rd x1.s r1), q _ B1 H1 x1 (jw_enum r1 a1)⟩
  · cases ez⟩
/-- reversed of a list -/
def revD : List D → Option (List D)
  | [.list xs] => some xs.reverse
  | _ => none
theorem jw_rev {K : PySem.W.Frag} {B : Hp} {a : Addr} {xs : List V} {ds : List D} (h : Rd B a (.lst xs)) (hd : DnAll K B xs ds) : JW K B (Itv K a xs.length) ds.reverse := fun B' H' s s' i => by
  have hS : SqL K H' a xs := .inl (same_rd (s.trans s') h)
  refine ⟨fun d e => ?_, fun hl => ?_⟩
  · have hi : i < ds.length := by
      by_cases z : i < ds.length
      · exact z
      · rw [List.getElem?_eq_none (by rw [List.length_reverse]; omega)] at e; cases e
    rw [List.getElem?_reverse hi] at e
    obtain ⟨u1, u2, u3⟩ := hd.get e
    rw [← hd.length] at u2
    refine ⟨⟨by rw [hd.length]; exact hi, xs, u1, hS, u2⟩, fun y H2 hy => ?_⟩
    obtain ⟨rfl, hy⟩ := hy
    have e1 := hy xs hS
    rw [u2] at e1
    cases e1
    exact ⟨B', .refl s', u3.mono s⟩
  · show xs.length ≤ i
    rw [List.length_reverse] at hl
    rw [hd.length]
    exact hl
theorem i_rev {a : Expr} {p : Pos} (ha : PA X [a] (cA G ow 0 fs)) (hg : Gl X "reversed" := by rfl) (hm : X.mg "reversed" = none) (hs : starEach [a] X.env = [(false, eval a X.env)] := by rfl) (hK : X.K = G.K := by rfl) :
    PI X tg (.Call (.Name "reversed" p) [a] [] pos) (cI G ow fun γ => (fs γ).bind fun ds => oR (revD ds)) := (pi_reversed hg hm ha hs).impD fun σ H R ⟨B, γ, I, q⟩ => ⟨B, γ, I, q.bind.imp fun ds q vs B1 H1 x1 hvs => by
  obtain ⟨z, ez, q⟩ := q.oR
  unfold revD at ez
  split at ez
  · rename_i xs
    cases ez
    cases hvs with
    | cons h t =>
      cases t
      cases (show Dn G.K B1 _ _ from h) with
      | lst r1 a1 =>
        rw [hK]
        exact ⟨_, _, rfl, .inl (same_rd x1.s r1), q _ B1 H1 x1 (jw_rev r1 a1)⟩
  · cases ez⟩
/-- over the signs of a text -/
def sgnO : D → Option (List D)
  | .str z => some (z.cps.toList.map fun c => .str ⟨#[c]⟩)
  | _ => none
theorem i_str (ha : PE X iter (cV G ow 1 f)) : PI X tg iter (cI G ow fun γ => (f γ).bind fun d => oR (sgnO d)) := (pi_str ha).impD fun σ H R ⟨B, γ, I, q⟩ => ⟨B, γ, I, q.bind.imp fun d q v B1 H1 x1 hv => by
  obtain ⟨z, ez, q⟩ := q.oR
  unfold sgnO at ez
  split at ez
  · rename_i t
    cases ez
    refine ⟨t, hv.str, q _ B1 H1 x1 fun B' H' s s' i => ⟨fun d e => ?_, fun hl => ?_⟩⟩
    · rw [List.getElem?_map, Option.map_eq_some_iff] at e
      obtain ⟨c, ec, rfl⟩ := e
      have ec' : t.cps[i]? = some c := by rw [← Array.getElem?_toList]; exact ec
      have hi : i < t.cps.size := by
        by_cases z : i < t.cps.size
        · exact z
        · rw [Array.getElem?_eq_none (by omega)] at ec'; cases ec'
      refine ⟨hi, fun x H2 hx => ?_⟩
      obtain ⟨rfl, c', e1, rfl⟩ := hx
      rw [ec'] at e1
      cases e1
      exact ⟨B', .refl s', .str _⟩
    · show t.cps.size ≤ i
      simpa using hl
  · cases ez⟩

/-! ### for, while -/
def forS (t : D → Env → Option Env) (b : Env → Out) : List D → Env → Out
  | [], γ => .nx γ
  | d :: ds, γ => match t d γ with
    | none => .no
    | some γ1 => match b γ1 with
      | .nx γ2 => forS t b ds γ2
      | .ct γ2 => forS t b ds γ2
      | .bk γ2 => .nx γ2
      | o => o
theorem s_for {body : List Stmt} {fi : Env → Rs (List D)} {t : D → Env → Option Env} {b : Env → Out} (hp : PassesOwn (model X.prog X.w) X.A X.env X.xe) (hi : PI X tg iter (cI G ow fi)) (hg : PG X tg (cG G ow vs t)) (hb : PSs X body (cS G ow ow ow b)) (hc : X.calm = true := by rfl)
    (hs : ∀ x, foldedSetIterable iter X.env x = pure x := by intro _; rfl) : PS X (.For tg iter body [] pos) (cS G ow ow owL fun γ => liftS (fi γ) γ fun ds => forS t b ds γ) :=
  (ps_for hp hc hi hg hb hs).impD fun J σ H ⟨B, γ, I, q⟩ => ⟨B, γ, I, (OutP.lift I q).imp fun ds q Jt B1 H1 x1 jw => by
    refine ⟨fun i m σ' H' => i ≤ ds.length ∧ m = ds.length - i ∧ ∃ B' γ', Same B1 B' ∧ EnvR G ow B' H' σ' γ' ∧ OutP G ow owL B' J (forS t b (ds.drop i) γ'), ⟨ds.length, Nat.zero_le _, by omega, B1, γ, .refl _, I.mono x1, OutP.mono x1.b q⟩, fun i m σ' H' hW => ?_⟩
    obtain ⟨hi, rfl, B', γ', s', I', q'⟩ := hW
    obtain ⟨j1, j2⟩ := jw B' H' s' I'.s i
    by_cases hlt : i < ds.length
    · obtain ⟨jg, jy⟩ := j1 _ (List.getElem?_eq_getElem hlt)
      refine .inr ⟨jg, fun σ2 H2 => ∃ B2 γ2, Same B1 B2 ∧ EnvR G ow B2 H2 σ2 γ2 ∧ OutP G ow owL B2 J (forS t b (ds.drop (i + 1)) γ2), fun σ2 H2 hN => ⟨ds.length - (i + 1), by omega, by omega, rfl, hN⟩, fun x H2 hy => ?_⟩
      obtain ⟨B2, x2, hx⟩ := jy x H2 hy
      rw [List.drop_eq_getElem_cons hlt] at q'
      unfold forS at q'
      cases ht : t ds[i] γ' with
      | none => rw [ht] at q'; exact q'.elim
      | some γ1 =>
        rw [ht] at q'
        dsimp only at q'
        refine ⟨B2, γ', ds[i], γ1, I'.mono x2, hx, ht, fun σ3 _ I3 => ⟨B2, γ1, I3, ?_⟩⟩
        cases hbo : b γ1 with
        | nx γ2 =>
          rw [hbo] at q'
          exact fun B4 σ4 H4 s4 I4 => ⟨B4, γ2, s'.trans (x2.b.trans s4), I4, OutP.mono (x2.b.trans s4) q'⟩
        | ct γ2 =>
          rw [hbo] at q'
          exact fun B4 σ4 H4 s4 I4 => ⟨B4, γ2, s'.trans (x2.b.trans s4), I4, OutP.mono (x2.b.trans s4) q'⟩
        | bk γ2 =>
          rw [hbo] at q'
          exact fun B4 σ4 H4 s4 I4 => q' B4 σ4 H4 (x2.b.trans s4) I4
        | rt d => rw [hbo] at q'; exact OutP.mono (o := .rt d) x2.b q'
        | er c fs γ => rw [hbo] at q'; exact OutP.mono (o := .er c fs γ) x2.b q'
        | no => rw [hbo] at q'; exact q'
    · refine .inl ⟨j2 (by omega), ?_⟩
      rw [List.drop_eq_nil_of_le (by omega)] at q'
      exact q' B' σ' H' (.refl _) I'⟩
def whileS (t : Env → Rs Bool) (b : Env → Out) : Nat → Env → Out
  | 0, _ => .no
  | n + 1, γ => liftS (t γ) γ fun c => if c = true then
      match b γ with
      | .nx γ2 => whileS t b n γ2
      | .ct γ2 => whileS t b n γ2
      | .bk γ2 => .nx γ2
      | o => o
    else .nx γ
/-- turns enough for any loop -/
def FUEL : Nat := 10 ^ 100
theorem s_while {c : Expr} {body : List Stmt} {t : Env → Rs Bool} {b : Env → Out} (hp : PassesOwn (model X.prog X.w) X.A X.env X.xe) (hc : PT X c (cT G ow t)) (hb : PSs X body (cS G ow ow ow b)) :
    PS X (.While c body [] pos) (cS G ow ow owL fun γ => whileS t b FUEL γ) :=
  (ps_while hp hc hb).impD fun J σ H ⟨B, γ, I, q⟩ => by
    refine ⟨fun m σ' H' => ∃ B' γ', EnvR G ow B' H' σ' γ' ∧ OutP G ow owL B' J (whileS t b m γ'), ⟨FUEL, B, γ, I, q⟩, fun m σ' H' hW => ?_⟩
    obtain ⟨B', γ', I', q'⟩ := hW
    cases m with
    | zero => exact q'.elim
    | succ m =>
      unfold whileS at q'
      refine ⟨B', γ', I', (OutP.lift I' q').imp fun c q B1 H1 x1 => ?_⟩
      cases c with
      | false => exact (show OutP G ow owL B' J (.nx γ') from q) B1 σ' H1 x1.b (I'.mono x1)
      | true =>
        rw [if_pos rfl] at q ⊢
        refine ⟨fun σ2 H2 => ∃ B2 γ2, EnvR G ow B2 H2 σ2 γ2 ∧ OutP G ow owL B2 J (whileS t b m γ2), fun σ2 H2 hN => ⟨m, by omega, hN⟩, B1, γ', I'.mono x1, ?_⟩
        cases hbo : b γ' with
        | nx γ2 =>
          rw [hbo] at q
          exact fun B4 σ4 H4 s4 I4 => ⟨B4, γ2, I4, OutP.mono (x1.b.trans s4) q⟩
        | ct γ2 =>
          rw [hbo] at q
          exact fun B4 σ4 H4 s4 I4 => ⟨B4, γ2, I4, OutP.mono (x1.b.trans s4) q⟩
        | bk γ2 =>
          rw [hbo] at q
          exact fun B4 σ4 H4 s4 I4 => q B4 σ4 H4 (x1.b.trans s4) I4
        | rt d => rw [hbo] at q; exact OutP.mono (o := .rt d) x1.b q
        | er c fs γ => rw [hbo] at q; exact OutP.mono (o := .er c fs γ) x1.b q
        | no => rw [hbo] at q; exact q
end
end DL
set_option Elab.async false
set_option linter.all false
set_option maxRecDepth 100000
set_option maxHeartbeats 4000000
/-! The data layer: comprehensions, calls of built-ins and of the program's own defs. -/
namespace DL
open PySem PySem.Spec PyProof.Rows L2

/-! ### comprehensions -/
def wipeE (γ : Env) : List Nat → Env
  | [] => γ
  | v :: vs => (wipeE γ vs).set v none
theorem wipeE_length (γ : Env) : ∀ vs : List Nat, (wipeE γ vs).length = γ.length
  | [] => rfl
  | v :: vs => by unfold wipeE; rw [List.length_set, wipeE_length γ vs]
theorem wipeE_some {γ : Env} {i : Nat} {d : D} : ∀ {vs : List Nat}, (wipeE γ vs)[i]? = some (some d) → γ[i]? = some (some d) ∧ i ∉ vs
  | [], h => ⟨h, by simp⟩
  | v :: vs, h => by
    unfold wipeE at h
    by_cases e : i = v
    · subst e
      by_cases hl : i < (wipeE γ vs).length
      · rw [List.getElem?_set_self hl] at h; cases h
      · rw [List.getElem?_eq_none (by rw [List.length_set]; omega)] at h; cases h
    · rw [List.getElem?_set_ne (Ne.symm e)] at h
      obtain ⟨h1, h2⟩ := wipeE_some h
      exact ⟨h1, by simp [e, h2]⟩
/-- no exception may leave -/
abbrev Gd.mute (G : Gd) : Gd := { G with W := fun _ _ _ _ => False }
theorem EnvR.mute {G : Gd} {ow : List Nat} {B H : Hp} {σ : L2.St} {γ : Env} (I : EnvR G ow B H σ γ) : EnvR G.mute ow B H σ γ := ⟨I.s, I.e, I.len, I.x, I.v⟩
theorem EnvR.unmute {G : Gd} {ow : List Nat} {B H : Hp} {σ : L2.St} {γ : Env} (I : EnvR G.mute ow B H σ γ) : EnvR G ow B H σ γ := ⟨I.s, I.e, I.len, I.x, I.v⟩
theorem EnvR.wipe {G : Gd} {ow : List Nat} {B H : Hp} {σ : L2.St} {γ : Env} (I : EnvR G ow B H σ γ) (hx : G.x = none) (vs : List Nat) : EnvR G ow B H (L2.wipe σ vs) (wipeE γ vs) := by
  refine I.sub (fun t z => by rw [hx] at z; cases z) (by rw [wipeE_length, wipe_length, I.len]) fun i d e => ?_
  obtain ⟨e1, e2⟩ := wipeE_some e
  exact ⟨e1, fun v hv => by rw [wipe_out e2]; exact hv⟩
def noEr {α : Type} : Rs α → Rs α
  | .ok a => .ok a
  | _ => .no
@[simp] theorem noEr_ok {α : Type} (a : α) : noEr (.ok a) = .ok a := Eq.trans (Eq.refl _) rfl
def compL (t : D → Env → Option Env) (c : Env → Rs Bool) (f : Env → Rs D) : List D → Env → Rs (List D)
  | [], _ => .ok []
  | d :: ds, γ => match t d γ with
    | none => .no
    | some γ1 => (noEr (c γ1)).bind fun b => if b = true then (noEr (f γ1)).bind fun y => (compL t c f ds γ).map fun ys => y :: ys else compL t c f ds γ
theorem noEr_er {α : Type} {x : Rs α} {c : Str} {fs : List (Str × D)} : noEr x ≠ .er c fs := by cases x <;> exact fun z => nomatch z
theorem compL_er {t : D → Env → Option Env} {c : Env → Rs Bool} {f : Env → Rs D} {n : Str} {fs : List (Str × D)} : ∀ {ds : List D} {γ : Env}, compL t c f ds γ ≠ .er n fs
  | [], _ => fun z => nomatch z
  | d :: ds, γ => by
    unfold compL
    cases t d γ with
    | none => exact fun z => nomatch z
    | some γ1 =>
      dsimp only
      cases hc : noEr (c γ1) with
      | er _ _ => exact absurd hc noEr_er
      | no => exact fun z => nomatch z
      | ok b =>
        cases b with
        | false => exact compL_er (ds := ds)
        | true =>
          show (noEr (f γ1)).bind _ ≠ _
          cases hf : noEr (f γ1) with
          | er _ _ => exact absurd hf noEr_er
          | no => exact fun z => nomatch z
          | ok y =>
            show (compL t c f ds γ).map _ ≠ _
            cases hr : compL t c f ds γ with
            | er _ _ => exact absurd hr compL_er
            | no => exact fun z => nomatch z
            | ok ys => exact fun z => nomatch z
theorem noEr_some {α : Type} {x : Rs α} {a : α} (h : noEr x = .ok a) : x = .ok a := by cases x <;> first | exact h | cases h
/-- one turn -/
theorem compL_cons {t : D → Env → Option Env} {c : Env → Rs Bool} {f : Env → Rs D} {d : D} {ds zs : List D} {γ : Env} (h : compL t c f (d :: ds) γ = .ok zs) :
    ∃ γ1, t d γ = some γ1 ∧ ∃ b, c γ1 = .ok b ∧ ((b = true ∧ ∃ y ys, f γ1 = .ok y ∧ compL t c f ds γ = .ok ys ∧ zs = y :: ys) ∨ (b = false ∧ compL t c f ds γ = .ok zs)) := by
  unfold compL at h
  cases ht : t d γ with
  | none => rw [ht] at h; cases h
  | some γ1 =>
    rw [ht] at h
    dsimp only at h
    cases hc : noEr (c γ1) with
    | er _ _ => rw [hc] at h; cases h
    | no => rw [hc] at h; cases h
    | ok b =>
      rw [hc] at h
      refine ⟨γ1, rfl, b, noEr_some hc, ?_⟩
      cases b with
      | false => exact .inr ⟨rfl, h⟩
      | true =>
        left
        replace h : (noEr (f γ1)).bind _ = _ := h
        cases hf : noEr (f γ1) with
        | er _ _ => rw [hf] at h; cases h
        | no => rw [hf] at h; cases h
        | ok y =>
          rw [hf] at h
          replace h : (compL t c f ds γ).map _ = _ := h
          cases hr : compL t c f ds γ with
          | er _ _ => rw [hr] at h; cases h
          | no => rw [hr] at h; cases h
          | ok ys =>
            rw [hr] at h
            cases h
            exact ⟨rfl, y, ys, noEr_some hf, rfl, rfl⟩
def compR (vs : List Nat) (t : D → Env → Option Env) (c : Env → Rs Bool) (f : Env → Rs D) (ds : List D) (γ : Env) : Rs (List D) := (compL t c f ds (wipeE γ vs)).bind fun zs => oR (szL zs)
theorem Ext.wrh {B H B' H' : Hp} {p : Addr} {o : HO} (x : Ext B H B' H') (h : H p = none) (hb : B' p = none) : Ext B H B' (upd H' p o) :=
  ⟨x.b, fun a u e => by rw [upd_ne (ne_of_none e h)]; exact x.h a u e, fun a u e => by rw [upd_ne (ne_of_none e hb)]; exact x.s a u e, x.n⟩
section
variable {X : Cx} {elt tg iter : Expr} {ifs : List Expr} {pos : Pos} {G : Gd} {ow owL : List Nat}
theorem lc_imp {K : PySem.W.Frag} {vs : List Nat} {t : D → Env → Option Env} {c : Env → Rs Bool} {f : Env → Rs D} {fi : Env → Rs (List D)} (hg : G.x = none) {σ : L2.St} {H : Hp} {Q : VK} (h : cN G ow (fun γ => (fi γ).bind fun ds => compR vs t c f ds γ) σ H Q) :
    tLc (cI G ow fi) (cG G.mute ow vs t) (cT G.mute ow c) (cV G.mute ow 0 f) vs σ H Q := by
  obtain ⟨B, γ, I, q⟩ := h
  refine ⟨B, γ, I, q.bind.imp fun ds q J B1 H1 x1 jw => fun Da hDa => ?_⟩
  unfold compR at q
  cases hr : compL t c f ds (wipeE γ vs) with
  | er _ _ => exact absurd hr compL_er
  | no => rw [hr] at q; exact q.elim
  | ok zs =>
    rw [hr] at q
    obtain ⟨zs', ez, q9⟩ := RsP.oR (show RsP G σ B H (oR (szL zs)) _ from q)
    obtain ⟨hl, e9⟩ := szL_some ez
    subst e9
    refine ⟨fun i m H' => i ≤ ds.length ∧ m = ds.length - i ∧ ∃ B' dn rs acc, Ext B1 H1 B' H' ∧ B' Da = none ∧ H' Da = some (.lst acc) ∧ DnAll G.K B' acc dn ∧ compL t c f (ds.drop i) (wipeE γ vs) = .ok rs ∧ dn ++ rs = zs',
      ⟨ds.length, Nat.zero_le _, by omega, B1, [], zs', [], .hid x1.s hDa, same_none x1.s hDa, upd_same, .nil, hr, rfl⟩, fun i m H' hW => ?_⟩
    obtain ⟨hi, rfl, B', dn, rs, acc, xx, hb, hl', hd, hc, he⟩ := hW
    obtain ⟨j1, j2⟩ := jw B' H' xx.b xx.s i
    by_cases hlt : i < ds.length
    · obtain ⟨jg, jy⟩ := j1 _ (List.getElem?_eq_getElem hlt)
      refine .inr ⟨jg, fun H2 => ∃ B2 dn rs acc, Ext B1 H1 B2 H2 ∧ B2 Da = none ∧ H2 Da = some (.lst acc) ∧ DnAll G.K B2 acc dn ∧ compL t c f (ds.drop (i + 1)) (wipeE γ vs) = .ok rs ∧ dn ++ rs = zs', fun H2 hN => ⟨ds.length - (i + 1), by omega, by omega, rfl, hN⟩, fun x H2 hy => ?_⟩
      obtain ⟨B2, x2, hx⟩ := jy x H2 hy
      rw [List.drop_eq_getElem_cons hlt] at hc
      obtain ⟨γ1, ht, b, hcb, hrest⟩ := compL_cons hc
      have keepD : ∀ {B3 H3 : Hp}, Ext B' H' B3 H3 → B3 Da = none ∧ H3 Da = some (.lst acc) := fun y => ⟨y.n Da hb (nt_lst hl'), y.h _ _ hl'⟩
      refine ⟨B2, wipeE γ vs, ds[i], γ1, ((I.mono (x1.trans (xx.trans x2))).mute).wipe hg vs, hx, ht, fun σ3 hw3 I3 => ⟨hw3.trans (wipe_wipe _ _), B2, γ1, I3, ?_⟩⟩
      rw [hcb]
      intro B3 H3 x3
      rcases hrest with ⟨rfl, y, ys, hy1, hy2, rfl⟩ | ⟨rfl, hy2⟩
      · rw [if_pos rfl]
        refine ⟨B3, γ1, I3.mono x3, ?_⟩
        rw [hy1]
        intro v B4 H4 x4 hv
        obtain ⟨k1, k2⟩ := keepD ((x2.trans x3).trans x4)
        refine ⟨acc, k2, ?_, B4, dn ++ [y], ys, acc ++ [v], (xx.trans ((x2.trans x3).trans x4)).wrh hDa k1, k1, upd_same, (hd.mono ((x2.trans x3).trans x4).b).append (.cons hv .nil), hy2, ?_⟩
        · rw [hd.length]
          refine lim_lt ?_
          have : zs'.length = dn.length + (ys.length + 1) := by rw [← he, List.length_append, List.length_cons]
          omega
        · rw [List.append_assoc]; exact he
      · rw [if_neg (by decide)]
        obtain ⟨k1, k2⟩ := keepD (x2.trans x3)
        exact ⟨B3, dn, rs, acc, xx.trans (x2.trans x3), k1, k2, hd.mono (x2.trans x3).b, hy2, he⟩
    · refine .inl ⟨j2 (by omega), ?_⟩
      rw [List.drop_eq_nil_of_le (by omega)] at hc
      cases hc
      rw [List.append_nil] at he
      subst he
      exact q9 Da acc B' H' (x1.trans xx) (x1.h.free hDa) hb hl' hd
def tsYes : Env → Rs Bool := fun _ => .ok true
theorem ts_nil {X : Cx} {G : Gd} : PTs X [] (cT G ow tsYes) := ⟨fun pins s σ H Q I q => pts_nil.run pins s σ H Q I (by
  obtain ⟨B, γ, I', q⟩ := q
  exact (show ∀ B' H', Ext B H B' H' → Q true H' from q) B H (.refl I'.s))⟩
theorem ts_one {X : Cx} {G : Gd} {c : Expr} {t : Env → Rs Bool} (h : PT X c (cT G ow t)) : PTs X [c] (cT G ow t) := pts_one h
variable {scope : Scope} {own : List (Str × Nat)} {t : D → Env → Option Env} {c : Env → Rs Bool} {f : Env → Rs D} {fi : Env → Rs (List D)}
theorem n_lc (own : List (Str × Nat)) (hN : X.N.Nodup) (hi : PI X tg iter (cI G ow fi)) (ok : BlkOk X.N X.env.scope scope own)
    (hg : ∀ (s : Shared) (H : Hp) (C : Addr) (cl : List (Str × Addr)) (fp : List Addr), PG (X.blk s H scope (compEnvC scope cl C X.env) fp) tg (cG G.mute ow (own.map (·.2)) t)) (ht : ∀ (s : Shared) (H : Hp) (C : Addr) (cl : List (Str × Addr)) (fp : List Addr), PTs (X.blk s H scope (compEnvC scope cl C X.env) fp) ifs (cT G.mute ow c))
    (he : ∀ (s : Shared) (H : Hp) (C : Addr) (cl : List (Str × Addr)) (fp : List Addr), PE (X.blk s H scope (compEnvC scope cl C X.env) fp) elt (cV G.mute ow 0 f)) (hc : X.calm = true := by rfl) (hx : G.x = none := by rfl) (hs : ∀ x, foldedSetIterable iter X.env x = pure x := by intro _; rfl) :
    PE X (.ListComp elt [⟨tg, iter, ifs, 0⟩] scope pos) (cN G ow fun γ => (fi γ).bind fun ds => compR (own.map (·.2)) t c f ds γ) := (pe_lc hc hN hi ok hg ht he hs).impD fun σ H Q q => lc_imp (K := X.K) hx q
theorem s_setLc {ow' : List Nat} {y : Str} {py spos : Pos} (i : Nat) (own : List (Str × Nat)) (hN : X.N.Nodup) (hi : PI X tg iter (cI G ow fi)) (ok : BlkOk X.N X.env.scope scope own)
    (hg : ∀ (s : Shared) (H : Hp) (C : Addr) (cl : List (Str × Addr)) (fp : List Addr), PG (X.blk s H scope (compEnvC scope cl C X.env) fp) tg (cG G.mute ow (own.map (·.2)) t)) (ht : ∀ (s : Shared) (H : Hp) (C : Addr) (cl : List (Str × Addr)) (fp : List Addr), PTs (X.blk s H scope (compEnvC scope cl C X.env) fp) ifs (cT G.mute ow c))
    (he : ∀ (s : Shared) (H : Hp) (C : Addr) (cl : List (Str × Addr)) (fp : List Addr), PE (X.blk s H scope (compEnvC scope cl C X.env) fp) elt (cV G.mute ow 0 f)) (hsw : swapsWith (.ListComp elt [⟨tg, iter, ifs, 0⟩] scope pos) (some (.Name y py)) spos.line X.env = pure true)
    (hw : ow.set i 0 = ow' := by rfl) (hy : X.N[i]? = some y := by rfl) (hyl : X.env.scope.names.lookup y = some .local := by rfl) (hc : X.calm = true := by rfl) (hx : G.x = none := by rfl) (hs : ∀ x, foldedSetIterable iter X.env x = pure x := by intro _; rfl) :
    PS X (.Assign [.Name y py] (.ListComp elt [⟨tg, iter, ifs, 0⟩] scope pos) spos) (cS G ow ow' owL fun γ => liftS ((fi γ).bind fun ds => compR (own.map (·.2)) t c f ds γ) γ fun ds => .nx (γ.set i (some (.list ds)))) :=
  (ps_setLc hc hN hy hyl hsw hi ok hg ht he hs).impD fun J σ H ⟨B, γ, I, q⟩ => lc_imp (K := X.K) hx ⟨B, γ, I, (q.lift I).imp fun ds q p xs B1 H1 x1 hp hb hl hd => by
    refine q (upd B1 p (.lst xs)) _ H1 (x1.b.trans (same_new hb)) ?_
    rw [← hw]
    exact (I.mono (x1.shown hp hb hl)).set i hx (.lst (.inl upd_same) (hd.mono (same_new hb)))⟩
theorem s_newLc {ow' : List Nat} {y : Str} {py spos : Pos} (i : Nat) (own : List (Str × Nat)) (hN : X.N.Nodup) (hi : PI X tg iter (cI G ow fi)) (ok : BlkOk X.N X.env.scope scope own)
    (hg : ∀ (s : Shared) (H : Hp) (C : Addr) (cl : List (Str × Addr)) (fp : List Addr), PG (X.blk s H scope (compEnvC scope cl C X.env) fp) tg (cG G.mute ow (own.map (·.2)) t)) (ht : ∀ (s : Shared) (H : Hp) (C : Addr) (cl : List (Str × Addr)) (fp : List Addr), PTs (X.blk s H scope (compEnvC scope cl C X.env) fp) ifs (cT G.mute ow c))
    (he : ∀ (s : Shared) (H : Hp) (C : Addr) (cl : List (Str × Addr)) (fp : List Addr), PE (X.blk s H scope (compEnvC scope cl C X.env) fp) elt (cV G.mute ow 0 f)) (hsw : swapsWith (.ListComp elt [⟨tg, iter, ifs, 0⟩] scope pos) (some (.Name y py)) spos.line X.env = pure true)
    (hw : ow.set i 1 = ow' := by rfl) (hlt : i < ow.length := by decide) (hy : X.N[i]? = some y := by rfl) (hyl : X.env.scope.names.lookup y = some .local := by rfl) (hc : X.calm = true := by rfl) (hx : G.x = none := by rfl) (hs : ∀ x, foldedSetIterable iter X.env x = pure x := by intro _; rfl) :
    PS X (.Assign [.Name y py] (.ListComp elt [⟨tg, iter, ifs, 0⟩] scope pos) spos) (cS G ow ow' owL fun γ => liftS ((fi γ).bind fun ds => compR (own.map (·.2)) t c f ds γ) γ fun ds => .nx (γ.set i (some (.list ds)))) :=
  (ps_setLc hc hN hy hyl hsw hi ok hg ht he hs).impD fun J σ H ⟨B, γ, I, q⟩ => lc_imp (K := X.K) hx ⟨B, γ, I, (q.lift I).imp fun ds q p xs B1 H1 x1 hp hb hl hd => by
    refine q B1 _ H1 x1.b ?_
    rw [← hw]
    exact I.setN i hx hlt x1 hp hb hl hd⟩
end

/-! ### calls of built-ins -/
structure HC (K : PySem.W.Frag) (r : List V → Hp → VK → Prop) (P : List D → D → Prop) : Prop where
  run : ∀ {B H : Hp} {vs : List V} {ds : List D} {z : D} {Q : VK}, Same B H → Paired (DnF K B H 1) vs ds → P ds z → (∀ v B' H', Ext B H B' H' → Dn K B' v z → Q v H') → r vs H Q
theorem HC.or {K : PySem.W.Frag} {r1 r2 : List V → Hp → VK → Prop} {P1 P2 : List D → D → Prop} (h1 : HC K r1 P1) (h2 : HC K r2 P2) : HC K (fun xs H Q => r1 xs H Q ∨ r2 xs H Q) fun d z => P1 d z ∨ P2 d z :=
  ⟨fun s hx hz q => hz.elim (fun hz => .inl (h1.run s hx hz q)) fun hz => .inr (h2.run s hx hz q)⟩
theorem HC.impP {K : PySem.W.Frag} {r : List V → Hp → VK → Prop} {P P' : List D → D → Prop} (h : HC K r P) (hi : ∀ d z, P' d z → P d z) : HC K r P' := ⟨fun s hx hz q => h.run s hx (hi _ _ hz) q⟩
section
variable {X : Cx} {x : Str} {p pos : Pos} {e : Expr} {es : List Expr} {G : Gd} {ow : List Nat} {fs : Env → Rs (List D)} {r : List V → Hp → VK → Prop} {F : List D → Option D}
theorem cb_imp (hr : HC G.K r fun ds z => F ds = some z) {σ : L2.St} {H : Hp} {Q : VK} (h : cV G ow 0 (fun γ => (fs γ).bind fun ds => oR (F ds)) σ H Q) : tCB r (cA G ow 1 fs) σ H Q := by
  obtain ⟨B, γ, I, q⟩ := h
  refine ⟨B, γ, I, q.bind.imp fun ds q vs B1 H1 x1 hvs => ?_⟩
  obtain ⟨z, ez, q⟩ := q.oR
  exact hr.run x1.s hvs ez fun v B2 H2 x2 hv => q v B2 H2 (x1.trans x2) hv
theorem d_callB {id : String} (hr : HC G.K r fun ds z => F ds = some z) (hc : CallR X (.builtin id) r) (hm : X.mg x = none) (hv : bootBuiltins x = some (.builtin id)) (ha : PA X (e :: es) (cA G ow 1 fs)) (hg : Gl X x := by rfl) (hn : x ≠ "__name__" := by decide) (hdb : (x == ("__debug__" : Str)) = false := by decide)
    (he : starEach (e :: es) X.env = (false, eval e X.env) :: starEach es X.env := by rfl) (hpl : (backTo pos (starEach es X.env)).any (·.1) = false := by rfl) :
    PE X (.Call (.Name x p) (e :: es) [] pos) (cV G ow 0 fun γ => (fs γ).bind fun ds => oR (F ds)) := (pe_callB hc hg hm hv ha hn hdb he hpl).impD fun σ H Q q => cb_imp hr q
theorem d_callT {T : String} (hr : HC G.K r fun ds z => F ds = some z) (hc : CallR X (.type T) r) (hm : X.mg x = none) (hv : bootBuiltins x = some (.type T)) (ha : PA X (e :: es) (cA G ow 1 fs)) (hg : Gl X x := by rfl) (hn : x ≠ "__name__" := by decide) (hdb : (x == ("__debug__" : Str)) = false := by decide)
    (he : starEach (e :: es) X.env = (false, eval e X.env) :: starEach es X.env := by rfl) (hpl : (backTo pos (starEach es X.env)).any (·.1) = false := by rfl) :
    PE X (.Call (.Name x p) (e :: es) [] pos) (cV G ow 0 fun γ => (fs γ).bind fun ds => oR (F ds)) := (pe_callTy hc hg hm hv ha hn hdb he hpl).impD fun σ H Q q => cb_imp hr q
/-! len -/
def lenSq : List D → Option D
  | [.list ds] => some (.int (ds.length : Nat))
  | [.dict [(.none, .list ds)]] => some (.int (ds.length : Nat))
  | [.tuple ds] => some (.int (ds.length : Nat))
  | _ => none
def lenSt : List D → Option D
  | [.str z] => if z.length ≤ LIM then some (.int (z.length : Nat)) else none
  | _ => none
def isRol : List (D × D) → Bool
  | [(.none, .list _)] => true
  | [(.bool true, .dict _)] => true
  | [(.bool false, .tuple _)] => true
  | [(.bool false, .int _)] => true
  | _ => false
def lenDi : List D → Option D
  | [.dict es] => if isRol es = true then none else some (.int (es.length : Nat))
  | _ => none
def lenD : List D → Option D
  | [.list ds] => some (.int (ds.length : Nat))
  | [.dict [(.none, .list ds)]] => some (.int (ds.length : Nat))
  | [.tuple ds] => some (.int (ds.length : Nat))
  | [.str z] => if z.length ≤ LIM then some (.int (z.length : Nat)) else none
  | [.dict es] => if isRol es = true then none else some (.int (es.length : Nat))
  | _ => none
theorem lenD_or {ds : List D} {z : D} (h : lenD ds = some z) : (lenSq ds = some z ∨ lenSt ds = some z) ∨ lenDi ds = some z := by
  unfold lenD at h
  split at h
  · exact .inl (.inl h)
  · exact .inl (.inl h)
  · exact .inl (.inl h)
  · exact .inl (.inr h)
  · exact .inr h
  · cases h
theorem kv_len {K : PySem.W.Frag} {H : Hp} : ∀ {kvs : List (Key × V)} {es : List (D × D)}, DnKv K H kvs es → kvs.length = es.length
  | _, _, .nil => rfl
  | _, _, .cons _ t => by rw [List.length_cons, List.length_cons, kv_len t]
theorem kt_len {K : PySem.W.Frag} {H : Hp} : ∀ {kvs : List (List Key × V)} {es : List (D × D)}, DnKt K H kvs es → kvs.length = es.length
  | _, _, .nil => rfl
  | _, _, .cons _ t => by rw [List.length_cons, List.length_cons, kt_len t]
theorem hc_lenSq {K : PySem.W.Frag} : HC K (fun xs H Q => ∃ p ys, xs = [.ref p] ∧ (SqL K H p ys ∨ SqT K H p ys) ∧ Q (.int ys.length) H) fun ds z => lenSq ds = some z := by
  refine ⟨?_⟩
  intro B H vs ds z Q s hx hz q
  unfold lenSq at hz
  split at hz
  · rename_i es
    cases hz
    cases hx with
    | cons h t =>
      cases t
      obtain ⟨p, us, rfl, h1, h2⟩ := DnF.items s h
      exact ⟨p, us, rfl, .inl (.inl h1), by rw [paired_len h2]; exact q _ B H (.refl s) (.int _)⟩
  · rename_i es
    cases hz
    cases hx with
    | cons h t =>
      cases t
      obtain ⟨p, us, rfl, _, h1, h2⟩ := DnF.rol s h
      exact ⟨p, us, rfl, .inl h1, by rw [h2.length]; exact q _ B H (.refl s) (.int _)⟩
  · rename_i es
    cases hz
    cases hx with
    | cons h t =>
      cases t
      obtain ⟨p, us, rfl, h1, h2⟩ := DnF.tups s h
      exact ⟨p, us, rfl, .inr h1, by rw [h2.length]; exact q _ B H (.refl s) (.int _)⟩
  · cases hz
theorem hc_lenSt {K : PySem.W.Frag} : HC K (fun xs H Q => ∃ z, xs = [.str z] ∧ z.length ≤ sizeLine ∧ Q (.int z.length) H) fun ds z => lenSt ds = some z := by
  refine ⟨?_⟩
  intro B H vs ds z Q s hx hz q
  unfold lenSt at hz
  split at hz
  · rename_i t
    split at hz
    · rename_i hc
      cases hz
      cases hx with
      | cons h t' =>
        cases t'
        exact ⟨t, by rw [DnF.str h], lim_le hc, q _ B H (.refl s) (.int _)⟩
    · cases hz
  · cases hz
theorem hc_lenDi {K : PySem.W.Frag} : HC K (fun xs H Q => (∃ a kvs, xs = [V.ref a] ∧ H a = some (.dK kvs) ∧ Q (.int (kvs.length : Nat)) H) ∨ rLenT xs H Q) fun ds z => lenDi ds = some z := by
  refine ⟨?_⟩
  intro B H vs ds z Q s hx hz q
  unfold lenDi at hz
  split at hz
  · rename_i es
    split at hz
    · cases hz
    rename_i hro
    cases hz
    cases hx with
    | cons h t' =>
      cases t'
      have h' := DnF.flu s h
      cases h' with
      | rol a b => exact absurd rfl hro
      | lkk a b => exact absurd rfl hro
      | lkt a b => exact absurd rfl hro
      | rng a => exact absurd rfl hro
      | adr => exact absurd rfl hro
      | dic a b => exact .inl ⟨_, _, rfl, a, by rw [kv_len b]; exact q _ B H (.refl s) (.int _)⟩
      | dct a b => exact .inr ⟨_, _, rfl, a, by rw [kt_len b]; exact q _ B H (.refl s) (.int _)⟩
  · cases hz
theorem d_len (hm : X.mg "len" = none) (ha : PA X (e :: es) (cA G ow 1 fs)) (hg : Gl X "len" := by rfl) (he : starEach (e :: es) X.env = (false, eval e X.env) :: starEach es X.env := by rfl) (hpl : (backTo pos (starEach es X.env)).any (·.1) = false := by rfl) (hK : X.K = G.K := by rfl) :
    PE X (.Call (.Name "len" p) (e :: es) [] pos) (cV G ow 0 fun γ => (fs γ).bind fun ds => oR (lenD ds)) :=
  d_callB (((hc_lenSq.or hc_lenSt).or hc_lenDi).impP fun _ _ h => lenD_or h) (CallR.or (hK ▸ CallR.or call_len_seq call_len_str) (CallR.or call_lenD call_len_dT)) hm PySem.boot_len ha hg (by decide) (by decide) he hpl
/-! abs, int, bool, max, min -/
def absD : List D → Option D
  | [.int i] => some (.int (if i < 0 then -i else i))
  | _ => none
theorem d_abs (hm : X.mg "abs" = none) (ha : PA X (e :: es) (cA G ow 1 fs)) (hg : Gl X "abs" := by rfl) (he : starEach (e :: es) X.env = (false, eval e X.env) :: starEach es X.env := by rfl) (hpl : (backTo pos (starEach es X.env)).any (·.1) = false := by rfl) :
    PE X (.Call (.Name "abs" p) (e :: es) [] pos) (cV G ow 0 fun γ => (fs γ).bind fun ds => oR (absD ds)) :=
  d_callB ⟨by
    intro B H vs ds z Q s hx hz q
    unfold absD at hz
    split at hz
    · cases hz
      cases hx with
      | cons h t => cases t; exact ⟨_, by rw [DnF.int h], q _ B H (.refl s) (.int _)⟩
    · cases hz⟩ call_abs hm (by decide +kernel) ha hg (by decide) (by decide) he hpl
def intD : List D → Option D
  | [.int i] => some (.int i)
  | [.bool b] => some (.int (if b then 1 else 0))
  | _ => none
theorem d_intc (hm : X.mg "int" = none) (ha : PA X (e :: es) (cA G ow 1 fs)) (hg : Gl X "int" := by rfl) (he : starEach (e :: es) X.env = (false, eval e X.env) :: starEach es X.env := by rfl) (hpl : (backTo pos (starEach es X.env)).any (·.1) = false := by rfl) :
    PE X (.Call (.Name "int" p) (e :: es) [] pos) (cV G ow 0 fun γ => (fs γ).bind fun ds => oR (intD ds)) :=
  d_callT ⟨by
    intro B H vs ds z Q s hx hz q
    unfold intD at hz
    split at hz
    · cases hz
      cases hx with
      | cons h t => cases t; exact .inl ⟨_, by rw [DnF.int h], q _ B H (.refl s) (.int _)⟩
    · cases hz
      cases hx with
      | cons h t => cases t; exact .inr ⟨_, by rw [DnF.bool h], q _ B H (.refl s) (.int _)⟩
    · cases hz⟩ call_int1 hm (by decide +kernel) ha hg (by decide) (by decide) he hpl
def intsO : List D → Option (List Int)
  | [] => some []
  | .int i :: r => (intsO r).map fun ns => i :: ns
  | _ :: _ => none
theorem intsO_some : ∀ {ds : List D} {ns : List Int}, intsO ds = some ns → ds = ns.map PyData.int
  | [], _, h => by cases h; rfl
  | .int i :: r, ns, h => by
    unfold intsO at h
    cases hr : intsO r with
    | none => rw [hr] at h; cases h
    | some ms => rw [hr] at h; cases h; rw [intsO_some hr]; rfl
  | .none :: _, _, h => by cases h
  | .bool _ :: _, _, h => by cases h
  | .str _ :: _, _, h => by cases h
  | .list _ :: _, _, h => by cases h
  | .tuple _ :: _, _, h => by cases h
  | .dict _ :: _, _, h => by cases h
@[simp] theorem intsO_map : ∀ ns : List Int, intsO (ns.map PyData.int) = some ns
  | [] => rfl
  | n :: ns => by
    show (intsO (ns.map PyData.int)).map _ = _
    rw [intsO_map ns]
    rfl
def mxf (m y : Int) : Int := if y > m then y else m
def mnf (m y : Int) : Int := if y < m then y else m
def maxI : List Int → Int
  | [] => 0
  | a :: r => r.foldl mxf a
def minI : List Int → Int
  | [] => 0
  | a :: r => r.foldl mnf a
theorem mxf_spec : ∀ (r : List Int) (a : Int), (r.foldl mxf a = a ∨ r.foldl mxf a ∈ r) ∧ a ≤ r.foldl mxf a ∧ ∀ y ∈ r, y ≤ r.foldl mxf a
  | [], a => ⟨.inl rfl, Int.le_refl _, fun _ h => nomatch h⟩
  | b :: r, a => by
    obtain ⟨h1, h2, h3⟩ := mxf_spec r (mxf a b)
    rw [List.foldl_cons]
    have e1 : a ≤ mxf a b := by unfold mxf; split <;> omega
    have e2 : b ≤ mxf a b := by unfold mxf; split <;> omega
    have e3 : mxf a b = a ∨ mxf a b = b := by unfold mxf; split <;> simp
    refine ⟨?_, Int.le_trans e1 h2, fun y hy => ?_⟩
    · rcases h1 with h1 | h1
      · rw [h1]
        rcases e3 with e3 | e3
        · exact .inl e3
        · rw [e3]; exact .inr List.mem_cons_self
      · exact .inr (List.mem_cons_of_mem _ h1)
    · rcases List.mem_cons.mp hy with rfl | hy
      · exact Int.le_trans e2 h2
      · exact h3 y hy
theorem mnf_spec : ∀ (r : List Int) (a : Int), (r.foldl mnf a = a ∨ r.foldl mnf a ∈ r) ∧ r.foldl mnf a ≤ a ∧ ∀ y ∈ r, r.foldl mnf a ≤ y
  | [], a => ⟨.inl rfl, Int.le_refl _, fun _ h => nomatch h⟩
  | b :: r, a => by
    obtain ⟨h1, h2, h3⟩ := mnf_spec r (mnf a b)
    rw [List.foldl_cons]
    have e1 : mnf a b ≤ a := by unfold mnf; split <;> omega
    have e2 : mnf a b ≤ b := by unfold mnf; split <;> omega
    have e3 : mnf a b = a ∨ mnf a b = b := by unfold mnf; split <;> simp
    refine ⟨?_, Int.le_trans h2 e1, fun y hy => ?_⟩
    · rcases h1 with h1 | h1
      · rw [h1]
        rcases e3 with e3 | e3
        · exact .inl e3
        · rw [e3]; exact .inr List.mem_cons_self
      · exact .inr (List.mem_cons_of_mem _ h1)
    · rcases List.mem_cons.mp hy with rfl | hy
      · exact Int.le_trans h2 e2
      · exact h3 y hy
theorem maxI_spec {ns : List Int} (h : ns ≠ []) : maxI ns ∈ ns ∧ ∀ y ∈ ns, y ≤ maxI ns := by
  cases ns with
  | nil => exact absurd rfl h
  | cons a r =>
    obtain ⟨h1, h2, h3⟩ := mxf_spec r a
    show r.foldl mxf a ∈ a :: r ∧ ∀ y ∈ a :: r, y ≤ r.foldl mxf a
    refine ⟨?_, fun y hy => ?_⟩
    · rcases h1 with h1 | h1
      · rw [h1]; exact List.mem_cons_self
      · exact List.mem_cons_of_mem _ h1
    · rcases List.mem_cons.mp hy with rfl | hy
      · exact h2
      · exact h3 y hy
theorem minI_spec {ns : List Int} (h : ns ≠ []) : minI ns ∈ ns ∧ ∀ y ∈ ns, minI ns ≤ y := by
  cases ns with
  | nil => exact absurd rfl h
  | cons a r =>
    obtain ⟨h1, h2, h3⟩ := mnf_spec r a
    show r.foldl mnf a ∈ a :: r ∧ ∀ y ∈ a :: r, r.foldl mnf a ≤ y
    refine ⟨?_, fun y hy => ?_⟩
    · rcases h1 with h1 | h1
      · rw [h1]; exact List.mem_cons_self
      · exact List.mem_cons_of_mem _ h1
    · rcases List.mem_cons.mp hy with rfl | hy
      · exact h2
      · exact h3 y hy
theorem ints_of {K : PySem.W.Frag} {B H : Hp} {xs : List V} {ds : List D} {ns : List Int} (h : Paired (DnF K B H 0) xs ds) (e : intsO ds = some ns) : xs = ns.map V.int := by
  rw [intsO_some e] at h
  exact (DnAll.of_paired h).ints
def lsD (f : List Int → Option Int) : List D → Option D
  | [.list ds] => (intsO ds).bind fun ns => (f ns).map PyData.int
  | _ => none
theorem lsD_some {f : List Int → Option Int} {ds : List D} {z : D} (h : lsD f ds = some z) : ∃ es ns i, ds = [.list es] ∧ intsO es = some ns ∧ f ns = some i ∧ z = .int i := by
  unfold lsD at h
  split at h
  · rename_i es
    cases hi : intsO es with
    | none => rw [hi] at h; cases h
    | some ns =>
      rw [hi] at h
      replace h : (f ns).map PyData.int = some z := h
      cases hf : f ns with
      | none => rw [hf] at h; cases h
      | some i => rw [hf] at h; cases h; exact ⟨es, ns, i, rfl, hi, hf, rfl⟩
  · cases h
def sumD : List D → Option D := lsD fun ns => some ns.sum
def max2D : List D → Option D
  | [.int i, .int j] => some (.int (if j > i then j else i))
  | _ => none
def min2D : List D → Option D
  | [.int i, .int j] => some (.int (if j < i then j else i))
  | _ => none
def maxLD : List D → Option D := lsD fun ns => if ns.isEmpty = false then some (maxI ns) else none
def minLD : List D → Option D := lsD fun ns => if ns.isEmpty = false then some (minI ns) else none
theorem hc_sum {K : PySem.W.Frag} : HC K (rSum K) fun ds z => sumD ds = some z := ⟨by
  intro B H vs ds z Q s hx hz q
  obtain ⟨es, ns, i, rfl, e1, e2, rfl⟩ := lsD_some hz
  cases e2
  cases hx with
  | cons h t =>
    cases t
    obtain ⟨p, us, rfl, h1, h2⟩ := DnF.items s h
    rw [ints_of h2 e1] at h1
    exact ⟨p, ns, rfl, .inl h1, q _ B H (.refl s) (.int _)⟩⟩
theorem isE_ne {α : Type} {ns : List α} (h : ns.isEmpty = false) : ns ≠ [] := fun z => by subst z; cases h
theorem hc_maxL {K : PySem.W.Frag} : HC K (rMax K) fun ds z => maxLD ds = some z := ⟨by
  intro B H vs ds z Q s hx hz q
  obtain ⟨es, ns, i, rfl, e1, e2, rfl⟩ := lsD_some hz
  split at e2
  · rename_i hne
    cases e2
    have hne := isE_ne hne
    obtain ⟨s1, s2⟩ := maxI_spec hne
    cases hx with
    | cons h t =>
      cases t
      obtain ⟨p, us, rfl, h1, h2⟩ := DnF.items s h
      rw [ints_of h2 e1] at h1
      refine ⟨p, ns, rfl, .inl h1, List.length_pos_iff.mpr hne, fun m hm hle => ?_⟩
      have : m = maxI ns := Int.le_antisymm (s2 m hm) (hle _ s1)
      rw [this]
      exact q _ B H (.refl s) (.int _)
  · cases e2⟩
theorem hc_minL {K : PySem.W.Frag} : HC K (rMin K) fun ds z => minLD ds = some z := ⟨by
  intro B H vs ds z Q s hx hz q
  obtain ⟨es, ns, i, rfl, e1, e2, rfl⟩ := lsD_some hz
  split at e2
  · rename_i hne
    cases e2
    have hne := isE_ne hne
    obtain ⟨s1, s2⟩ := minI_spec hne
    cases hx with
    | cons h t =>
      cases t
      obtain ⟨p, us, rfl, h1, h2⟩ := DnF.items s h
      rw [ints_of h2 e1] at h1
      refine ⟨p, ns, rfl, .inl h1, List.length_pos_iff.mpr hne, fun m hm hle => ?_⟩
      have : m = minI ns := Int.le_antisymm (hle _ s1) (s2 m hm)
      rw [this]
      exact q _ B H (.refl s) (.int _)
  · cases e2⟩
theorem hc_max2 {K : PySem.W.Frag} : HC K (fun xs H Q => ∃ i j, xs = [.int i, .int j] ∧ Q (.int (if j > i then j else i)) H) fun ds z => max2D ds = some z := ⟨by
  intro B H vs ds z Q s hx hz q
  unfold max2D at hz
  split at hz
  · cases hz
    cases hx with
    | cons h t => cases t with
      | cons h' t' => cases t'; exact ⟨_, _, by rw [DnF.int h, DnF.int h'], q _ B H (.refl s) (.int _)⟩
  · cases hz⟩
theorem hc_min2 {K : PySem.W.Frag} : HC K (fun xs H Q => ∃ i j, xs = [.int i, .int j] ∧ Q (.int (if j < i then j else i)) H) fun ds z => min2D ds = some z := ⟨by
  intro B H vs ds z Q s hx hz q
  unfold min2D at hz
  split at hz
  · cases hz
    cases hx with
    | cons h t => cases t with
      | cons h' t' => cases t'; exact ⟨_, _, by rw [DnF.int h, DnF.int h'], q _ B H (.refl s) (.int _)⟩
  · cases hz⟩
def maxD (ds : List D) : Option D := match ds with
  | [_] => maxLD ds
  | _ => max2D ds
def minD (ds : List D) : Option D := match ds with
  | [_] => minLD ds
  | _ => min2D ds
theorem d_sum (hm : X.mg "sum" = none) (ha : PA X (e :: es) (cA G ow 1 fs)) (hc : X.calm = true := by rfl) (hg : Gl X "sum" := by rfl) (he : starEach (e :: es) X.env = (false, eval e X.env) :: starEach es X.env := by rfl) (hpl : (backTo pos (starEach es X.env)).any (·.1) = false := by rfl) (hK : X.K = G.K := by rfl) :
    PE X (.Call (.Name "sum" p) (e :: es) [] pos) (cV G ow 0 fun γ => (fs γ).bind fun ds => oR (sumD ds)) :=
  d_callB hc_sum (hK ▸ cr_sum hc) hm (by decide +kernel) ha hg (by decide) (by decide) he hpl
theorem d_max (hm : X.mg "max" = none) (ha : PA X (e :: es) (cA G ow 1 fs)) (hc : X.calm = true := by rfl) (hg : Gl X "max" := by rfl) (he : starEach (e :: es) X.env = (false, eval e X.env) :: starEach es X.env := by rfl) (hpl : (backTo pos (starEach es X.env)).any (·.1) = false := by rfl) (hK : X.K = G.K := by rfl) :
    PE X (.Call (.Name "max" p) (e :: es) [] pos) (cV G ow 0 fun γ => (fs γ).bind fun ds => oR (maxD ds)) :=
  d_callB ((hc_maxL.or hc_max2).impP fun ds z h => by
    unfold maxD at h
    split at h
    · exact .inl h
    · exact .inr h) (CallR.or (hK ▸ cr_max hc) (call_max2 hc)) hm (by decide +kernel) ha hg (by decide) (by decide) he hpl
theorem d_min (hm : X.mg "min" = none) (ha : PA X (e :: es) (cA G ow 1 fs)) (hc : X.calm = true := by rfl) (hg : Gl X "min" := by rfl) (he : starEach (e :: es) X.env = (false, eval e X.env) :: starEach es X.env := by rfl) (hpl : (backTo pos (starEach es X.env)).any (·.1) = false := by rfl) (hK : X.K = G.K := by rfl) :
    PE X (.Call (.Name "min" p) (e :: es) [] pos) (cV G ow 0 fun γ => (fs γ).bind fun ds => oR (minD ds)) :=
  d_callB ((hc_minL.or hc_min2).impP fun ds z h => by
    unfold minD at h
    split at h
    · exact .inl h
    · exact .inr h) (CallR.or (hK ▸ cr_min hc) (call_min2 hc)) hm (by decide +kernel) ha hg (by decide) (by decide) he hpl
/-! sorted of ints -/
def insI (a : Int) : List Int → List Int
  | [] => [a]
  | b :: r => if a ≤ b then a :: b :: r else b :: insI a r
def srtI : List Int → List Int
  | [] => []
  | a :: r => insI a (srtI r)
theorem insI_perm (a : Int) : ∀ l : List Int, (insI a l).Perm (a :: l)
  | [] => .refl _
  | b :: r => by
    unfold insI
    split
    · exact .refl _
    · exact ((insI_perm a r).cons b).trans (.swap a b r)
theorem srtI_perm : ∀ l : List Int, (srtI l).Perm l
  | [] => .refl _
  | a :: r => (insI_perm a _).trans ((srtI_perm r).cons a)
theorem insI_sorted (a : Int) : ∀ l : List Int, l.Pairwise (· ≤ ·) → (insI a l).Pairwise (· ≤ ·)
  | [], _ => by simp [insI]
  | b :: r, h => by
    unfold insI
    rw [List.pairwise_cons] at h
    split
    · rename_i hab
      refine List.pairwise_cons.mpr ⟨fun y hy => ?_, List.pairwise_cons.mpr h⟩
      rcases List.mem_cons.mp hy with rfl | hy
      · exact hab
      · exact Int.le_trans hab (h.1 y hy)
    · rename_i hab
      refine List.pairwise_cons.mpr ⟨fun y hy => ?_, insI_sorted a r h.2⟩
      rcases List.mem_cons.mp ((insI_perm a r).mem_iff.mp hy) with rfl | hy
      · omega
      · exact h.1 y hy
theorem srtI_sorted : ∀ l : List Int, (srtI l).Pairwise (· ≤ ·)
  | [] => .nil
  | a :: r => insI_sorted a _ (srtI_sorted r)
theorem sorted_uniq : ∀ {l m : List Int}, l.Perm m → l.Pairwise (· ≤ ·) → m.Pairwise (· ≤ ·) → l = m
  | [], m, p, _, _ => by rw [List.nil_perm.mp p]
  | a :: l, [], p, _, _ => absurd p.length_eq (by simp)
  | a :: l, b :: m, p, h, h' => by
    rw [List.pairwise_cons] at h h'
    have e : a = b := by
      have h1 : a ∈ b :: m := p.mem_iff.mp List.mem_cons_self
      have h2 : b ∈ a :: l := p.mem_iff.mpr List.mem_cons_self
      rcases List.mem_cons.mp h1 with h1 | h1
      · exact h1
      · rcases List.mem_cons.mp h2 with h2 | h2
        · exact h2.symm
        · exact Int.le_antisymm (h.1 b h2) (h'.1 a h1)
    subst e
    rw [sorted_uniq (p.cons_inv) h.2 h'.2]
def srtD : List D → Option (List D)
  | [.list ds] => (intsO ds).map fun ns => (srtI ns).map PyData.int
  | _ => none
theorem n_sorted (hm : X.mg "sorted" = none) (ha : PA X (e :: es) (cA G ow 1 fs)) (hg : Gl X "sorted" := by rfl) (he : starEach (e :: es) X.env = (false, eval e X.env) :: starEach es X.env := by rfl) (hpl : (backTo pos (starEach es X.env)).any (·.1) = false := by rfl) (hK : X.K = G.K := by rfl) :
    PE X (.Call (.Name "sorted" p) (e :: es) [] pos) (cN G ow fun γ => (fs γ).bind fun ds => oR (srtD ds)) :=
  (pe_callB (hK ▸ cr_sortedI) hg hm (by decide +kernel) ha (by decide) (by decide) he hpl).impD fun σ H Q ⟨B, γ, I, q⟩ => ⟨B, γ, I, q.bind.imp fun ds q vs B1 H1 x1 hvs => by
    obtain ⟨z, ez, q⟩ := q.oR
    unfold srtD at ez
    split at ez
    · rename_i es'
      cases hi : intsO es' with
      | none => rw [hi] at ez; cases ez
      | some ns =>
        rw [hi] at ez
        cases ez
        cases hvs with
        | cons h t =>
          cases t
          obtain ⟨p', us, rfl, h1, h2⟩ := DnF.items x1.s h
          rw [ints_of h2 hi] at h1
          refine ⟨p', ns, rfl, .inl h1, fun ns' r hp hs hr => ?_⟩
          have e9 : ns' = srtI ns := sorted_uniq (hp.trans (srtI_perm ns).symm) hs (srtI_sorted ns)
          rw [e9]
          exact q r _ B1 _ (x1.trans (.hid x1.s hr)) (x1.h.free hr) (same_none x1.s hr) upd_same (DnAll.of_ints _)
    · cases ez⟩
/-! list, tuple -/
def lstD : List D → Option (List D)
  | [.list ds] => some ds
  | [.dict [(.none, .list ds)]] => some ds
  | [.tuple ds] => some ds
  | _ => none
theorem n_list (hm : X.mg "list" = none) (ha : PA X (e :: es) (cA G ow 1 fs)) (hg : Gl X "list" := by rfl) (he : starEach (e :: es) X.env = (false, eval e X.env) :: starEach es X.env := by rfl) (hpl : (backTo pos (starEach es X.env)).any (·.1) = false := by rfl) (hK : X.K = G.K := by rfl) :
    PE X (.Call (.Name "list" p) (e :: es) [] pos) (cN G ow fun γ => (fs γ).bind fun ds => oR (lstD ds)) :=
  (pe_callTy (hK ▸ call_list_of) hg hm (by decide +kernel) ha (by decide) (by decide) he hpl).impD fun σ H Q ⟨B, γ, I, q⟩ => ⟨B, γ, I, q.bind.imp fun ds q vs B1 H1 x1 hvs => by
    obtain ⟨z, ez, q⟩ := q.oR
    unfold lstD at ez
    split at ez
    · rename_i es'
      cases ez
      cases hvs with
      | cons h t =>
        cases t
        obtain ⟨p', us, rfl, h1, h2⟩ := DnF.items x1.s h
        exact ⟨p', us, rfl, .inl (.inl h1), fun r hr => q r _ B1 _ (x1.trans (.hid x1.s hr)) (x1.h.free hr) (same_none x1.s hr) upd_same (.of_paired h2)⟩
    · rename_i es'
      cases ez
      cases hvs with
      | cons h t =>
        cases t
        obtain ⟨p', us, rfl, _, h1, h2⟩ := DnF.rol x1.s h
        exact ⟨p', us, rfl, .inl h1, fun r hr => q r _ B1 _ (x1.trans (.hid x1.s hr)) (x1.h.free hr) (same_none x1.s hr) upd_same h2⟩
    · rename_i es'
      cases ez
      cases hvs with
      | cons h t =>
        cases t
        obtain ⟨p', us, rfl, h1, h2⟩ := DnF.tups x1.s h
        exact ⟨p', us, rfl, .inr h1, fun r hr => q r _ B1 _ (x1.trans (.hid x1.s hr)) (x1.h.free hr) (same_none x1.s hr) upd_same h2⟩
    · cases ez⟩
theorem DnF.tupD {K : PySem.W.Frag} {B H : Hp} {v : V} {ds : List D} (h : DnF K B H 1 v (.tuple ds)) : Dn K B v (.tuple ds) := by
  rcases h with h | ⟨_, _, _, _, e, _⟩
  · exact h
  · cases e
def tplD : List D → Option D
  | [.list ds] => some (.tuple ds)
  | [.tuple ds] => some (.tuple ds)
  | _ => none
theorem d_tuple (hm : X.mg "tuple" = none) (ha : PA X (e :: es) (cA G ow 1 fs)) (hg : Gl X "tuple" := by rfl) (he : starEach (e :: es) X.env = (false, eval e X.env) :: starEach es X.env := by rfl) (hpl : (backTo pos (starEach es X.env)).any (·.1) = false := by rfl) (hK : X.K = G.K := by rfl) :
    PE X (.Call (.Name "tuple" p) (e :: es) [] pos) (cV G ow 0 fun γ => (fs γ).bind fun ds => oR (tplD ds)) :=
  d_callT ⟨by
    intro B H vs ds z Q s hx hz q
    unfold tplD at hz
    split at hz
    · rename_i es'
      cases hz
      cases hx with
      | cons h t =>
        cases t
        obtain ⟨p', us, rfl, h1, h2⟩ := DnF.items s h
        exact ⟨p', us, rfl, .inl ⟨.inl h1, fun r hr => q _ _ _ (.new s hr) (.tup upd_same ((DnAll.of_paired h2).mono (same_new (same_none s hr))))⟩⟩
    · rename_i es'
      cases hz
      cases hx with
      | cons h t =>
        cases t
        have h' := DnF.tupD h
        cases h' with
        | tup a b => exact ⟨_, _, rfl, .inr ⟨.inl (.inl (s _ _ a)), q _ B H (.refl s) (.tup a b)⟩⟩
    · cases hz⟩ (hK ▸ call_tuple_of) hm (by decide +kernel) ha hg (by decide) (by decide) he hpl
/-! list(range(..)) -/
theorem rgV_get (a b : Int) : rgV a b = (List.range (b - a).toNat).map fun k : Nat => V.int (a + (k : Int)) := rfl
theorem rg_all {K : PySem.W.Frag} {B : Hp} (a b : Int) : DnAll K B (rgV a b) (rgD a b) := by
  rw [rgV_get]
  unfold rgD
  generalize List.range (b - a).toNat = l
  induction l with
  | nil => exact .nil
  | cons k l ih => exact .cons (.int _) ih
def rgL1 : D → Option (List D)
  | .int j => if 0 ≤ j ∧ j ≤ LIM then some (rgD 0 j) else none
  | _ => none
def rgL2 : D → D → Option (List D)
  | .int i, .int j => if (0 ≤ i ∧ i ≤ LIM) ∧ (0 ≤ j ∧ j ≤ LIM) then some (rgD i j) else none
  | _, _ => none
variable {a b : Expr} {f g : Env → Rs D}
theorem n_listrg1 {p1 p2 : Pos} (hm : X.mg "list" = none) (hmr : X.mg "range" = none) (ha : PE X a (cV G ow 1 f)) (hg : Gl X "list" := by rfl) (hgr : Gl X "range" := by rfl) (hc : X.calm = true := by rfl) (na : starEach [a] X.env = (false, eval a X.env) :: starEach [] X.env := by rfl)
    (nb : starEach [.Call (.Name "range" p1) [a] [] p2] X.env = (false, eval (.Call (.Name "range" p1) [a] [] p2) X.env) :: starEach [] X.env := by rfl) :
    PE X (.Call (.Name "list" p) [.Call (.Name "range" p1) [a] [] p2] [] pos) (cN G ow fun γ => (f γ).bind fun d => oR (rgL1 d)) :=
  (pe_listRg hc hg hm (prg_1 hgr hmr ha (na := na)) (na := nb)).impD fun σ H Q ⟨B, γ, I, q⟩ => ⟨B, γ, I, q.bind.imp fun d q v B1 H1 x1 hv => by
    obtain ⟨z, ez, q⟩ := q.oR
    unfold rgL1 at ez
    split at ez
    · rename_i j
      split at ez
      · rename_i hc
        cases ez
        exact ⟨j, hv.int, RgOk.of_le (by decide) (Int.le_trans hc.2 (by decide)) (by decide) hc.1, fun r hr => q r _ B1 _ (x1.trans (.hid x1.s hr)) (x1.h.free hr) (same_none x1.s hr) upd_same (rg_all 0 j)⟩
      · cases ez
    · cases ez⟩
theorem n_listrg2 {p1 p2 : Pos} (hm : X.mg "list" = none) (hmr : X.mg "range" = none) (ha : PE X a (cV G ow 1 f)) (hb : PE X b (cV G ow 1 g)) (hg : Gl X "list" := by rfl) (hgr : Gl X "range" := by rfl) (hc : X.calm = true := by rfl) (na : starEach [a, b] X.env = (false, eval a X.env) :: starEach [b] X.env := by rfl)
    (nb : starEach [.Call (.Name "range" p1) [a, b] [] p2] X.env = (false, eval (.Call (.Name "range" p1) [a, b] [] p2) X.env) :: starEach [] X.env := by rfl) (nc : starEach [b] X.env = (false, eval b X.env) :: starEach [] X.env := by rfl) (hp : (backTo p2 (starEach [b] X.env)).any (·.1) = false := by rfl) :
    PE X (.Call (.Name "list" p) [.Call (.Name "range" p1) [a, b] [] p2] [] pos) (cN G ow fun γ => (f γ).bind fun d => (g γ).bind fun e => oR (rgL2 d e)) :=
  (pe_listRg hc hg hm (prg_2 hgr hmr ha hb na nc hp) nb).impD fun σ H Q ⟨B, γ, I, q⟩ => ⟨B, γ, I, q.bind.imp fun d q1 v B1 H1 x1 hv => ⟨B1, γ, I.mono x1, q1.bind.mono x1 fun e q2 u B2 H2 x2 hu => by
    obtain ⟨z, ez, q⟩ := q2.oR
    unfold rgL2 at ez
    split at ez
    · rename_i i j
      split at ez
      · rename_i hc
        cases ez
        exact ⟨i, j, (hv.mono x2).int, hu.int, RgOk.of_le hc.1.1 (Int.le_trans hc.2.2 (by decide)) (Int.le_trans hc.1.2 (by decide)) hc.2.1, fun r hr => q r _ B2 _ ((x1.trans x2).trans (.hid x2.s hr)) ((x1.trans x2).h.free hr) (same_none x2.s hr) upd_same (rg_all i j)⟩
      · cases ez
    · cases ez⟩⟩
/-! x.index(y) -/
def idxD : D → List D → Option D
  | .list ds, [d] => if SeqAt.shaped (.list ds) = true ∧ SeqAt.shaped d = true then (ds.findIdx? fun z => PyData.eqv z d).map fun j => .int (j : Nat) else none
  | _, _ => none
def plO : D → Option (List D)
  | .list ds => some ds
  | _ => none
theorem lsO_dn {d : D} {ds : List D} (h : plO d = some ds) : d = .list ds := by
  unfold plO at h
  split at h
  · cases h; rfl
  · cases h
theorem d_index {n : Nat} {p1 p2 : Pos} (hr : Room n X.A) (ha : PE X a (cV G ow 1 f)) (hb : PA X [e] (cA G ow 1 fs)) (hbase : attributeBase a "index" X.env (eval a X.env) = eval a X.env := by rfl) (hK : X.K = G.K := by rfl)
    (h1 : ∀ {to : TE} {t : TA}, X.A.units + 65 < cLine → PE X a to → PA X [e] t → PE X (.Call (.Attribute a "index" p1) [e] [] p2) (tBM X.K "list" (rIndexD X.K) to t) := by
      exact fun hu h1 h2 => pe_bm PySem.F.plainAttrs_list PySem.F.slot_list_index PySem.F.type_list_index (mt_indexD hu) h1 h2) :
    PE X (.Call (.Attribute a "index" p1) [e] [] p2) (cV G ow 0 fun γ => (f γ).bind fun d => (oR (plO d)).bind fun _ => (fs γ).bind fun ds => oR (idxD d ds)) :=
  (h1 (by have := hr.un; omega) ha hb).impD fun σ H Q ⟨B, γ, I, q⟩ => ⟨B, γ, I, q.bind.imp fun d q v B1 H1 x1 hv => by
    obtain ⟨es, e1, q⟩ := q.bind.oR
    have e2 := lsO_dn e1
    subst e2
    obtain ⟨p, us, rfl, h1, h2⟩ := hv.items x1.s
    rw [hK]
    refine ⟨.inl ⟨rfl, us, .inl h1⟩, B1, γ, I.mono x1, q.bind.mono x1 fun ds q vs B2 H2 x2 hvs => ?_⟩
    obtain ⟨z, ez, q⟩ := q.oR
    unfold idxD at ez
    split at ez
    · rename_i es' d' heq
      cases heq
      split at ez
      · rename_i hc
        cases hj : es.findIdx? (fun z => PyData.eqv z d') with
        | none => rw [hj] at ez; cases ez
        | some j =>
          rw [hj] at ez
          cases ez
          obtain ⟨hlt, k1, k2⟩ := List.findIdx?_eq_some_iff_getElem.mp hj
          cases hvs with
          | cons h t =>
            cases t
            refine ⟨p, _, d', es, j, es[j], rfl, rfl, ((hv.mono x2).flu x2.s).dp (SeqAt.canLay_of_shaped hc.1), (DnF.flu x2.s h).dp (SeqAt.canLay_of_shaped hc.2), hc.1, hc.2, List.getElem?_eq_getElem hlt, k1, fun m z' hm hz' => ?_, q _ B2 H2 (x1.trans x2) (Dn.int _)⟩
            have hml : m < es.length := Nat.lt_trans hm hlt
            rw [List.getElem?_eq_getElem hml] at hz'
            cases hz'
            have := k2 m hm
            simpa using this
      · cases ez
    · cases ez⟩
/-! str(n) -/
def strI : List D → Option D
  | [.int i] => if i.natAbs.log2 < 1920 then some (.str (toString i)) else none
  | _ => none
theorem d_strc (hm : X.mg "str" = none) (ha : PA X (e :: es) (cA G ow 1 fs)) (hg : Gl X "str" := by rfl) (he : starEach (e :: es) X.env = (false, eval e X.env) :: starEach es X.env := by rfl) (hpl : (backTo pos (starEach es X.env)).any (·.1) = false := by rfl) :
    PE X (.Call (.Name "str" p) (e :: es) [] pos) (cV G ow 0 fun γ => (fs γ).bind fun ds => oR (strI ds)) :=
  d_callT ⟨by
    intro B H vs ds z Q s hx hz q
    unfold strI at hz
    split at hz
    · split at hz
      · rename_i hc
        cases hz
        cases hx with
        | cons h t => cases t; exact ⟨_, by rw [DnF.int h], hc, q _ B H (.refl s) (.str _)⟩
      · cases hz
    · cases hz⟩ call_str_int hm (by decide +kernel) ha hg (by decide) (by decide) he hpl
end
end DL
set_option Elab.async false
set_option linter.all false
set_option maxRecDepth 100000
set_option maxHeartbeats 4000000
/-! The data layer: own error classes whose __init__ says super().__init__(text) and stores fields. -/
namespace DL
open PySem PySem.Spec PyProof.Rows L2

/-- what the written part says of a def that closes over its class -/
structure SupTxt (K : PySem.W.Frag) (mg : Str → Option Value) (P : Program) (C f : Addr) (qual : Str) (params : Arguments) (body : List Stmt) (scope : Scope) (fd : FuncData) (me : Str) : Prop where
  oex : OexC K C
  ex : ∃ (oc : Value) (od : Option Addr) (kV doc pm : Value) (an : Option Addr) (cda : Addr) (ct : Value) (osl : Array (Option Value)) (cc : Addr) (ccl : Value) (cdd : Option Addr) (vs : Array Value) (ccs : Array (Option Value)) (file : Str) (tf : Tok) (cl : Value) (cld : Option Addr) (csl : Array (Option Value)),
    fd = PySem.W.ksFn "__init__" qual params body scope .none kV doc pm an (.ref cda) ct cc ∧ K.lookup f = some ⟨oc, od, .func fd, osl⟩ ∧ PySem.W.codeIn K (.ref cda) qual = true ∧
      K.lookup cda = some ⟨ccl, cdd, .fields vs, ccs⟩ ∧ vs[2]? = some (.str file tf) ∧ ((P.main.file : Str) == file) = true ∧ K.lookup cc = some ⟨cl, cld, .cell (some (.ref C)), csl⟩
  cls : ∃ cd, PySem.W.clsIn K C = some cd
  sub : PySem.W.mroIn K C (.ref C) = some true
  sup : mg "super" = none
  st : PySem.W.nsIn K cStatics "thirdparty.any" = some none
  ini : PySem.W.ks_superIn K C C "__init__" = some (some (.builtin "ValueError.__init__"))
  ve : PySem.W.subIn K (.ref C) (.type "ValueError") = some true
  top : (P.main.scope.names.lookup ("super" : Str)).isSome = false
  head : ∃ ar, (params.posonlyargs ++ params.args).head? = some ar ∧ ar.arg = me

/-- the scope of such a def -/
structure SupScope (N ps : List Str) (me : Str) (sc : Scope) : Prop where
  kind : sc.kind = .function
  co : sc.isCoroutine = false
  gen : sc.isGenerator = false
  nd : N.Nodup
  np : N = ps
  par : ∀ x ∈ ps, sc.names.lookup x = some .local
  nocell : ∀ y ∈ sc.names, y.2 ≠ .cell
  free : ∀ y, sc.names.lookup y = some .free → y = "__class__"
  fr : sc.names.lookup ("__class__" : Str) = some .free
  gl : sc.names.lookup ("super" : Str) = some .globalImplicit
  hd : ps.head? = some me

abbrev cxF (CX : CXT) (P : Program) (w : World) (K : PySem.W.Frag) (mg : Str → Option Value) (base : Heap) (N : List Str) (qual : Str) (scope : Scope) (f : Addr) (cd : Value) (cc : Addr) (A : Around) (outer : List PySem.Env) (s : Shared) (H : Hp) (E : XK) : Cx where
  prog := P
  w := w
  K := K
  mg := mg
  base := base
  A := A.deeper (PySem.W.envX qual scope s.heap.objs.size f cd [("__class__", cc)])
  N := N
  s_0 := s
  H_0 := H
  env := PySem.W.envX qual scope s.heap.objs.size f cd [("__class__", cc)]
  outer := outer
  stack := PySem.W.envX qual scope s.heap.objs.size f cd [("__class__", cc)] :: outer
  ex := []
  calm := true
  fn := fun x => x != "__class__"
  pn := []
  xe := fun e s' => wpAny (model P w) (A.deeper (PySem.W.envX qual scope s.heap.objs.size f cd [("__class__", cc)])) (leaving (PySem.W.envX qual scope s.heap.objs.size f cd [("__class__", cc)]) e) (fun _ s'' => CX outer H s E e s'') (fun e' s'' => CX outer H s E e' s'') s'

theorem lookup_one {α : Type} {l : List (Str × α)} {x : Str} {u : α} (hm : (x, u) ∈ l) (hu : ∀ v, (x, v) ∈ l → v = u) : l.lookup x = some u := by
  induction l with
  | nil => cases hm
  | cons p r ih =>
    obtain ⟨k, v⟩ := p
    by_cases e : x = k
    · subst e
      rw [List.lookup_cons_self, hu v List.mem_cons_self]
    · rw [List.lookup_cons]
      have : (x == k) = false := by simpa using e
      rw [this]
      rcases List.mem_cons.mp hm with z | z
      · cases z; exact absurd rfl e
      · exact ih z fun v hv => hu v (List.mem_cons_of_mem _ hv)
theorem zip_lookup {ps : List Str} {us : List Value} (nd : ps.Nodup) {i : Nat} {x : Str} {u : Value} (h1 : ps[i]? = some x) (h2 : us[i]? = some u) : (ps.zip us).reverse.lookup x = some u := by
  refine lookup_one (List.mem_reverse.mpr (List.mem_of_getElem? (i := i) ?_)) fun v hv => ?_
  · rw [List.getElem?_zip_eq_some]; exact ⟨h1, h2⟩
  · obtain ⟨j, hj⟩ := List.getElem?_of_mem (List.mem_reverse.mp hv)
    obtain ⟨j1, j2⟩ := List.getElem?_zip_eq_some.mp hj
    have : i = j := nd_ix nd h1 j1
    subst this
    rw [h2] at j2
    exact (Option.some.inj j2).symm

section
variable {X : Cx} {pins : List (Addr × Obj)} {σ : L2.St} {H : Hp} {s : Shared} {a C : Addr}
/-- the bound built-in __init__, called: nothing that is told changes -/
theorem mw_ok {u : Addr} {us : List Value} {Q : Value → Shared → Prop} {E : Value → Shared → Prop} {A : Around} (T : OexC X.K C) (I : Inv X pins σ H s) (e : H a = some (exo a C none)) (hu : s.heap.get? u = some (PySem.W.kxs_mw "ValueError.__init__" a)) (hl : us.length ≤ sizeLine) (h : ∀ s', Inv X pins σ H s' → Q .none s') :
    wpAny (model X.prog X.w) A (call (.ref u) us) Q E s := by
  obtain ⟨nm, q, N, bs, bm, sn, sub, ab, col, dd, k0, k1, k2, k3, k5, hC, hbm⟩ := T.cls
  obtain ⟨t1, ho⟩ := exo_at I.hok e
  obtain ⟨hp, g, d, t, os⟩ := s
  have hrun : ∀ h', (∀ b o, b ≠ a → hp.get? b = some o → h'.get? b = some o) → (∃ t2 : Addr, h'.get? a = some ({ cls := .ref C, dict := none, data := .fields #[.ref t2, .none, .none, .none, .bool false, .none] } : Obj)) → Q .none ⟨h', g, d, t, os⟩ := fun h' k ⟨t2, hx⟩ => by
    have J := I.write (t' := t) (x := a) (e := a) (o := exo a C none) (by rw [e]; exact True.intro) (.inl rfl) k ⟨_, hx⟩ (exo_ok hx)
    have eu : upd H a (exo a C none) = H := by
      funext b
      by_cases hb : b = a
      · subst hb; rw [upd_same, e]
      · exact upd_ne hb
    rw [eu] at J
    exact h _ J
  refine wpAny_call (codeAny_of_tree ?_)
  show wpAny _ A.in1 (callAny (.ref u) ⟨us, []⟩) _ _ _
  simp only [callAny]
  refine wpAny_bind (wpAny_load hu ?_)
  have hdec : (Value.type "method-wrapper" == Value.type "method" || Value.type "method-wrapper" == Value.type "builtin_function_or_method" || Value.type "method-wrapper" == Value.type "method-wrapper") = true := by decide
  simp only [PySem.W.kxs_mw, hdec, if_true]
  refine PySem.W.KFB.if_so (by decide) ?_
  refine wpAny_bind (PySem.W.check_bound_init PySem.F.excBase_ValueError.toExcCallFacts (I.kIn _ _ hC) ho rfl ?_)
  refine wpAny_bind (wpAny_pure (wpAny_pure ?_))
  refine ⟨PySem.plainId_quiet PySem.F.excBase_ValueError.init.plain _, codeAny_builtin PySem.F.excBase_ValueError.initEntry ?_⟩
  exact PySem.W.exc_init_tree (cls := .ref C) (t0 := t1) (dv := none) (c2 := .none) (c3 := .none) (b4 := .bool false) ho hl fun h' k he' _ => hrun h' k ⟨_, he'⟩
end

theorem fn_supA {CX : CXT} {P : Program} {w : World} {K : PySem.W.Frag} {mg : Str → Option Value} {base : Heap} {k : Nat} {C f : Addr} {qual self : Str} {params : Arguments} {rest : List Stmt} {scope : Scope} {fd : FuncData} {N ps : List Str} {sp : Sp}
    {p0 p1 pa pc pe : Pos} {arg : Expr}
    (T : SupTxt K mg P C f qual params (.Expr (.Call (.Attribute (.Call (.Name "super" p0) [] [] p1) "__init__" pa) [arg] [] pc) pe :: rest) scope fd self) (S : SupScope N ps self scope)
    (len : ∀ vs H Q E, sp vs H Q E → vs.length = ps.length) (hself : ∀ vs H Q E, sp vs H Q E → ∃ a ws, vs = .ref a :: ws ∧ H a = some (exo a C none))
    (hsw : ∀ (s : Shared) (cd : Value) (cc : Addr), swapsWith (.Call (.Attribute (.Call (.Name "super" p0) [] [] p1) "__init__" pa) [arg] [] pc) none pe.line (PySem.W.envX qual scope s.heap.objs.size f cd [("__class__", cc)]) = pure false)
    (hev : ∀ (s : Shared) (cd : Value) (cc : Addr), ∃ pl : Sem Bool, eval (.Call (.Attribute (.Call (.Name "super" p0) [] [] p1) "__init__" pa) [arg] [] pc) (PySem.W.envX qual scope s.heap.objs.size f cd [("__class__", cc)]) = (do
      let ov ← attributeBase (.Call (.Name "super" p0) [] [] p1) "__init__" (PySem.W.envX qual scope s.heap.objs.size f cd [("__class__", cc)]) (eval (.Call (.Name "super" p0) [] [] p1) (PySem.W.envX qual scope s.heap.objs.size f cd [("__class__", cc)]))
      standAt pa.atName
      let (f', first) ← holding [ov] (getMethod ov "__init__" pl)
      callWith pc f' first (backTo pc (starEach [arg] (PySem.W.envX qual scope s.heap.objs.size f cd [("__class__", cc)]))) []))
    (hst : ∀ env : PySem.Env, starEach [arg] env = (false, eval arg env) :: starEach [] env)
    (harg : ∀ (cd : Value) (cc : Addr) (A : Around) (outer : List PySem.Env) (s : Shared) (H : Hp) (vs : List V) (Q : VK) (E : XK), sp vs H Q E →
      ∃ tt, PE (cxF CX P w K mg base N qual scope f cd cc A outer s H E) arg tt ∧ tCons tt tNil (L2.start N vs) H fun us H1 => us.length = 1 ∧ H1 = H)
    (hbody : ∀ (cd : Value) (cc : Addr) (A : Around) (outer : List PySem.Env) (s : Shared) (H : Hp) (vs : List V) (Q : VK) (E : XK), sp vs H Q E →
      ∃ t, PSs (cxF CX P w K mg base N qual scope f cd cc A outer s H E) rest t ∧ t { nx := fun _ H' => Q .non H', rt := Q } (L2.start N vs) H) :
    FnOk P w K mg base CX (k + 1) f fd ps sp := by
  refine ⟨len, fun A outer s H args us vs Q E hr e0 hb r hsp => ?_⟩
  obtain ⟨oc, od, kV, doc, pmo, an, cda, ct, osl, cc, ccl, cdd, vsC, ccs, file, tf, cl, cld, csl, rfl, lk, hcd, lcd, hv2, hfile, lcc⟩ := T.ex
  obtain ⟨ar, har, hself2⟩ := T.head
  obtain ⟨cdC, hcdC⟩ := T.cls
  have hl := len _ _ _ _ hsp
  obtain ⟨a, ws, rfl, ha⟩ := hself _ _ _ _ hsp
  have KX : K.In s.heap := e0.mod.kin.keeps fun b o e => (e0.bs b o e).1
  have lim : s.heap.NoLimit := e0.mod.nolimit.keeps fun b o e => (e0.bs b o e).1
  have hlu : us.length = ps.length := by rw [← r.length]; exact hl
  have hps : N = ps := S.np
  subst hps
  have hkind : ∀ y ∈ N.zip us, scope.names.lookup y.1 = some .local := fun ⟨n, v⟩ hy => S.par n (List.of_mem_zip hy).1
  refine PySem.ks_codeAny_call_defAt (fd := PySem.W.ksFn "__init__" qual params _ scope .none kV doc pmo an (.ref cda) ct cc) (binds := N.zip us) hr.depth (KX _ _ lk) rfl lim (PySem.W.codeRec_of KX hcd) rfl hb S.nocell hkind (fun h₀ hns hk => ?_) S.co S.gen S.kind
  obtain ⟨t, ht, hq⟩ := hbody (.ref cda) cc A outer s H _ Q E hsp
  have hK0 : K.In h₀ := KX.keeps hk
  have noA : ∀ b : Addr, b ∉ (cxF CX P w K mg base N qual scope f (.ref cda) cc A outer s H E).ex := fun b z => absurd (show b ∈ ([] : List Addr) from z) (by simp)
  have cellL : ∀ (y : Str) (c : Addr), ([(("__class__" : Str), cc)] : List (Str × Addr)).lookup y = some c → y = "__class__" ∧ c = cc := fun y c e => by
    rw [List.lookup_cons] at e
    split at e
    · rename_i z
      cases e
      exact ⟨by simpa using z, rfl⟩
    · cases e
  have Hcc : H cc = none := by
    have := KX _ _ lcc
    cases q : H cc with
    | none => rfl
    | some o =>
      have z := (e0.bs cc _ (e0.mod.kin _ _ lcc)).2
      rw [q] at z; cases z
  have I0 : Inv (cxF CX P w K mg base N qual scope f (.ref cda) cc A outer s H E) [] (L2.start N (.ref a :: ws)) H { s with heap := h₀, toks := s.toks + (N.zip us).length } := by
    refine ⟨⟨e0.mod, S.kind, rfl, rfl, Nat.le_refl _, fun y z c h1 h2 => ?_, fun y hy => ?_, fun y c hy h => ?_, fun _ => hr.hd, Around.frames_deeper e0.frames, .inr ⟨rfl, rfl⟩, fun b z => absurd z (noA b), e0.bs, e0.bsz, fun b _ _ => noA b, fun b z => absurd z (noA b), e0.funs, e0.frf⟩,
      rfl, e0.bare, Un.kept hk, ⟨_, hns, fun i y v h1 h2 h3 => ?_⟩, fun y c h => ?_, e0.hok.fresh (Nat.le_refl _), fun y c h => ?_, fun p hp => absurd (show p ∈ ([] : List (Addr × Obj)) from hp) (by simp), e0.hok.kept hk, ?_⟩
    · rw [(cellL y c h1).1, (cellL z c h2).1]
    · rcases hy with hy | hy
      · exact absurd rfl (S.nocell _ (PySem.mem_of_lookup hy))
      · rw [S.free y hy]; exact ⟨cc, rfl⟩
    · have := (cellL y c h).1
      subst this
      exact absurd hy (show ¬ (("__class__" : Str) != ("__class__" : Str)) = true by decide)
    · have hi : i < (V.ref a :: ws).length := by
        have h2' : ((V.ref a :: ws).map some ++ List.replicate (N.length - (V.ref a :: ws).length) none)[i]? = some (some v) := h2
        by_cases hi : i < (V.ref a :: ws).length
        · exact hi
        · rw [List.getElem?_append_right (by rw [List.length_map]; omega), List.getElem?_replicate] at h2'
          split at h2' <;> cases h2'
      have hav : (V.ref a :: ws)[i]? = some v := by
        have h2' : ((V.ref a :: ws).map some ++ List.replicate (N.length - (V.ref a :: ws).length) none)[i]? = some (some v) := h2
        rw [List.getElem?_append_left (by rw [List.length_map]; exact hi), List.getElem?_map, Option.map_eq_some_iff] at h2'
        obtain ⟨z, e1, e2⟩ := h2'
        rw [e1, Option.some.inj e2]
      obtain ⟨u, hu, rv⟩ := r.get hav
      exact ⟨u, rv, .inl ⟨S.par y (List.mem_of_getElem? h1), zip_lookup S.nd h1 hu⟩⟩
    · rw [(cellL y c h).2]
      exact ⟨_, _, hK0 _ _ lcc, rfl⟩
    · rw [(cellL y c h).2]
      exact Hcc
    · show (L2.start N (V.ref a :: ws)).length = N.length
      unfold L2.start
      rw [List.length_append, List.length_map, List.length_replicate]
      omega
  have hself3 : ∃ u0 ur, us = u0 :: ur ∧ u0 = Value.ref a := by
    cases r with
    | cons r0 _ => exact ⟨_, _, rfl, r0⟩
  obtain ⟨u0, ur, rfl, rfl⟩ := hself3
  have hselfL : (N.zip (Value.ref a :: ur)).reverse.lookup self = some (Value.ref a) := by
    have h0 : N[0]? = some self := by rw [← List.head?_eq_getElem?]; exact S.hd
    exact zip_lookup S.nd h0 rfl
  have hselfLoc : scope.names.lookup self = some .local := S.par self (by
    have := S.hd
    cases N with
    | nil => cases this
    | cons x l => cases this; exact List.mem_cons_self)
  obtain ⟨t1, hobj⟩ := exo_at I0.hok ha
  obtain ⟨oD, hD1, hD2⟩ : ∃ oD, h₀.get? C = some oD ∧ oD.data = .cls cdC := by
    unfold PySem.W.clsIn at hcdC
    split at hcdC
    · rename_i c d cd' sl ho
      cases hcdC
      exact ⟨_, hK0 _ _ ho, rfl⟩
    · cases hcdC
  obtain ⟨mb, hmb1, hmb2⟩ := e0.mod.blt
  have bk : ∀ b o, base.get? b = some o → h₀.get? b = some o := fun b o e => hk b o (e0.bs b o e).1
  obtain ⟨pl, hpl⟩ := hev s (.ref cda) cc
  refine PySem.ks_wpAt_execs_cons (PySem.ks_wpAt_Expr_any (PySem.ks_wpAt_MethodCall (pl := pl) ?_ hpl) I0.quiet (hsw s _ _))
  refine PySem.ks_wpAt_super_base (env := PySem.W.envX qual scope s.heap.objs.size f (.ref cda) [("__class__", cc)]) S.gl S.fr (by decide) rfl (hK0 _ _ lk) rfl har rfl (hK0 _ _ lcd) rfl hv2 hfile T.top ?_
  refine PySem.W.ks_loadName_global S.kind S.gl (PySem.Calls.loadGlobal_builtin (env := PySem.W.envX qual scope s.heap.objs.size f (.ref cda) [("__class__", cc)]) (e0.mod.glob.keeps bk) T.sup (hmb1.keeps bk) ((hmb2 _ (by decide)).trans (show bootBuiltins "super" = some (.type "super") by decide +kernel)) ⟨rfl, ?_⟩)
  refine wpAny_loadName_free S.kind S.fr rfl ⟨_, hK0 _ _ lcc, rfl⟩ ?_
  rw [hself2]
  refine wpAny_loadName_local S.kind hselfLoc hns hselfL ?_
  refine PySem.ks_wpAny_isType_cls hD1 hD2 ⟨rfl, ?_⟩
  refine PySem.ks_wpAny_call_super hD1 hD2 hobj rfl (fun c e => nomatch e) (PySem.W.looks_mroIn hK0 T.sub) (fun h1 e1 k1 => ?_)
  have I1 := I0.kept (t' := s.toks + (N.zip (Value.ref a :: ur)).length) k1
  obtain ⟨t2, hobj1⟩ := exo_at I1.hok ha
  have hK1 : K.In h1 := hK0.keeps k1
  have IA : PySem.W.InstAt h1 a { cls := .ref C, dict := none, data := .fields #[.ref t2, .none, .none, .none, .bool false, .none] } C none := ⟨hobj1, rfl, rfl, trivial⟩
  have hini := T.ini
  unfold PySem.W.ks_superIn at hini
  rw [hcdC] at hini
  refine PySem.W.kxs_getMethod PySem.W.kxs_ValueError e1 (PySem.W.looks_opaque hK1 T.st) (l₀ := cdC.mro) ?_ rfl hK1 hini (IA.type.andThen (PySem.W.looks_subIn hK1 T.ve)) (PySem.W.ks_ne hK1 IA hcdC) (by decide) ?_
  · exact fun A Q E s k q => wpAny_bind ((PySem.W.looks_clsIn hK1 hcdC) A _ E s k (wpAny_pure q))
  have k2 : ∀ b o, h1.get? b = some o → (h1.push (PySem.W.kxs_mw "ValueError.__init__" a)).get? b = some o := fun b o e => Heap.get?_push_of_some _ e
  have hu2 : (h1.push (PySem.W.kxs_mw "ValueError.__init__" a)).get? h1.objs.size = some (PySem.W.kxs_mw "ValueError.__init__" a) := Heap.get?_push_at rfl rfl
  have I2 := I1.kept (t' := s.toks + (N.zip (Value.ref a :: ur)).length + 1) k2
  have hfrU : H h1.objs.size = none := I1.hok.fresh (Nat.le_refl _)
  have I3 := I2.pins_of (pins' := [(h1.objs.size, PySem.W.kxs_mw "ValueError.__init__" a)]) (fun p hp => by
    have : p = (h1.objs.size, PySem.W.kxs_mw "ValueError.__init__" a) := by simpa using hp
    subst this
    refine ⟨hu2, hfrU, fun z => ?_, I1.nofs (Nat.le_refl _), fun v z => nomatch z⟩
    have := I1.lt
    rw [← z] at this
    exact absurd this (Nat.lt_irrefl _))
  obtain ⟨tta, harg1, harg2⟩ := harg (.ref cda) cc A outer s H _ Q E hsp
  have ha1 : PA (cxF CX P w K mg base N qual scope f (.ref cda) cc A outer s H E) [arg] (tCons tta tNil) := pa_cons harg1 pa_nil (hst _)
  have hrun := ha1.run pc _ _ _ _ (fun vs H1 => vs.length = 1 ∧ H1 = H) I3 harg2
  rw [hst] at hrun ⊢
  refine PySem.W.kxs_callWith (i := "ValueError.__init__") (x := a) rfl ?_
  refine PySem.Calls.evalArgs_plain (thn hrun fun us s4 hh => ?_)
  obtain ⟨vs4, H4, I4, r4, ev, eH⟩ := hh
  subst eH
  have hpin := (I4.pin (h1.objs.size, PySem.W.kxs_mw "ValueError.__init__" a) (by simp)).1
  refine ⟨hpin, ?_⟩
  have hus : us.length ≤ sizeLine := by
    rw [← r4.length, ev]
    decide
  refine mw_ok T.oex I4 ha hpin hus fun s5 I5 => ?_
  have I6 := I5.pins_of (pins' := []) (fun p hp => absurd hp (by simp))
  refine wpAt_of_wpAny (wpAny_mono (ht.run [] s5 _ _ _ I6 hq) (fun fl s' hs => ?_) fun e s' hs => hs)
  have fin : ∀ {σ' : L2.St} {H' : Hp} {v : V} {u : Value}, Inv (cxF CX P w K mg base N qual scope f (.ref cda) cc A outer s H4 E) [] σ' H' s' → RelV v u → Q v H' → CE outer P w H4 s Q u s' :=
    fun {σ' H' v u} J rv q => ⟨v, H', J.os, J.bare, J.base, J.hok, rv, q⟩
  cases fl with
  | ret u =>
    obtain ⟨v, σ', H', J, rv, q⟩ := hs
    exact fin J rv q
  | next =>
    obtain ⟨σ', H', J, q⟩ := hs
    exact fin (v := V.non) (u := Value.none) J rfl q
  | brk =>
    obtain ⟨_, _, _, q⟩ := hs
    exact q.elim
  | cont =>
    obtain ⟨_, _, _, q⟩ := hs
    exact q.elim
theorem fn_sup {CX : CXT} {P : Program} {w : World} {K : PySem.W.Frag} {mg : Str → Option Value} {base : Heap} {k : Nat} {C f : Addr} {qual self : Str} {params : Arguments} {rest : List Stmt} {scope : Scope} {fd : FuncData} {N ps : List Str} {sp : Sp}
    {p0 p1 pa pc pe : Pos} {msg : Str} {mj : Nat} {pm : Pos}
    (T : SupTxt K mg P C f qual params (.Expr (.Call (.Attribute (.Call (.Name "super" p0) [] [] p1) "__init__" pa) [.Constant (.str msg) mj pm] [] pc) pe :: rest) scope fd self) (S : SupScope N ps self scope)
    (len : ∀ vs H Q E, sp vs H Q E → vs.length = ps.length) (hself : ∀ vs H Q E, sp vs H Q E → ∃ a ws, vs = .ref a :: ws ∧ H a = some (exo a C none))
    (hsw : ∀ (s : Shared) (cd : Value) (cc : Addr), swapsWith (.Call (.Attribute (.Call (.Name "super" p0) [] [] p1) "__init__" pa) [.Constant (.str msg) mj pm] [] pc) none pe.line (PySem.W.envX qual scope s.heap.objs.size f cd [("__class__", cc)]) = pure false)
    (hev : ∀ (s : Shared) (cd : Value) (cc : Addr), ∃ pl : Sem Bool, eval (.Call (.Attribute (.Call (.Name "super" p0) [] [] p1) "__init__" pa) [.Constant (.str msg) mj pm] [] pc) (PySem.W.envX qual scope s.heap.objs.size f cd [("__class__", cc)]) = (do
      let ov ← attributeBase (.Call (.Name "super" p0) [] [] p1) "__init__" (PySem.W.envX qual scope s.heap.objs.size f cd [("__class__", cc)]) (eval (.Call (.Name "super" p0) [] [] p1) (PySem.W.envX qual scope s.heap.objs.size f cd [("__class__", cc)]))
      standAt pa.atName
      let (f', first) ← holding [ov] (getMethod ov "__init__" pl)
      callWith pc f' first (backTo pc (starEach [.Constant (.str msg) mj pm] (PySem.W.envX qual scope s.heap.objs.size f cd [("__class__", cc)]))) []))
    (hbody : ∀ (cd : Value) (cc : Addr) (A : Around) (outer : List PySem.Env) (s : Shared) (H : Hp) (vs : List V) (Q : VK) (E : XK), sp vs H Q E →
      ∃ t, PSs (cxF CX P w K mg base N qual scope f cd cc A outer s H E) rest t ∧ t { nx := fun _ H' => Q .non H', rt := Q } (L2.start N vs) H) :
    FnOk P w K mg base CX (k + 1) f fd ps sp :=
  fn_supA T S len hself hsw hev (fun _ => rfl) (fun _ _ _ _ _ _ _ _ _ _ => ⟨_, pe_str, ⟨rfl, rfl⟩⟩) hbody

end DL
set_option Elab.async false
set_option linter.all false
set_option maxRecDepth 100000
set_option maxHeartbeats 4000000
/-! The data layer: raise, try, defs of the program. -/
namespace DL
open PySem PySem.Spec PyProof.Rows L2

/-! ### errors made -/
theorem paired_append {α β : Type} {F : α → β → Prop} : ∀ {xs xs' : List α} {ys ys' : List β}, Paired F xs ys → Paired F xs' ys' → Paired F (xs ++ xs') (ys ++ ys')
  | _, _, _, _, .nil, h => h
  | _, _, _, _, .cons a t, h => .cons a (paired_append t h)
theorem paired_reverse {α β : Type} {F : α → β → Prop} : ∀ {xs : List α} {ys : List β}, Paired F xs ys → Paired F xs.reverse ys.reverse
  | _, _, .nil => .nil
  | _, _, .cons a t => by
    rw [List.reverse_cons, List.reverse_cons]
    exact paired_append (paired_reverse t) (.cons a .nil)
theorem paired_zip {α β γ : Type} {F : α → β → Prop} : ∀ (ks : List γ) {xs : List α} {ys : List β}, Paired F xs ys → Paired (fun (p : γ × α) (q : γ × β) => p.1 = q.1 ∧ F p.2 q.2) (ks.zip xs) (ks.zip ys)
  | [], _, _, _ => .nil
  | _ :: _, _, _, .nil => by simpa using Paired.nil
  | k :: ks, _, _, .cons a t => .cons ⟨rfl, a⟩ (paired_zip ks t)
def flV (flds : List Str) (lab : Str) (vs : List V) : List (Str × V) := (flds.zip vs).reverse ++ [((("label" : Str), V.str lab) : Str × V)]
def flD (flds : List Str) (lab : Str) (ds : List D) : List (Str × D) := (flds.zip ds).reverse ++ [((("label" : Str), PyData.str lab) : Str × D)]
theorem fr_of {G : Gd} {B : Hp} {vs : List V} {ds : List D} (flds : List Str) (lab : Str) (h : Paired (Dn G.K B) vs ds) : FR G B (flV flds lab vs) (flD flds lab ds) :=
  paired_append (paired_reverse (paired_zip flds h)) (.cons ⟨rfl, .str _⟩ .nil)
/-- what an error's __init__ promises -/
def spE (C : Addr) (lab : Str) (flds : List Str) : Sp := fun vs H Q _ => ∃ a ws, vs = .ref a :: ws ∧ ws.length = flds.length ∧ H a = some (exo a C none) ∧
  ∀ d H2, (∀ b o, b ≠ a → H b = some o → H2 b = some o) → H d = none → d ≠ a → H2 a = some (exo a C (some d)) → H2 d = some (exd d (flV flds lab ws)) → Q .non H2
theorem spE_len {C : Addr} {lab : Str} {flds : List Str} {n : Nat} (hn : flds.length + 1 = n) : ∀ vs H Q E, spE C lab flds vs H Q E → vs.length = n := fun vs H Q E h => by
  obtain ⟨a, ws, rfl, hl, _⟩ := h
  rw [List.length_cons, hl, hn]
theorem spE_arg {C : Addr} {lab : Str} {flds : List Str} {N : List Str} (i : Nat) {vs : List V} {H : Hp} {Q : VK} {E : XK} (h : spE C lab flds vs H Q E) (hi : i < flds.length + 1 := by decide) : tCons (tVar i) tNil (L2.start N vs) H fun us H1 => us.length = 1 ∧ H1 = H := by
  obtain ⟨a, ws, rfl, hl, _⟩ := h
  have h2 : i < (V.ref a :: ws).length := by rw [List.length_cons, hl]; exact hi
  refine ⟨(V.ref a :: ws)[i], ?_, rfl, rfl⟩
  unfold L2.start
  rw [List.getElem?_append_left (by rw [List.length_map]; exact h2), List.getElem?_map, List.getElem?_eq_getElem h2]
  rfl
theorem spE_self {C : Addr} {lab : Str} {flds : List Str} : ∀ vs H Q E, spE C lab flds vs H Q E → ∃ a ws, vs = .ref a :: ws ∧ H a = some (exo a C none) := fun vs H Q E h => by
  obtain ⟨a, ws, e, _, ha, _⟩ := h
  exact ⟨a, ws, e, ha⟩
section
variable {K : PySem.W.Frag} {C : Addr} {lab : Str} {H : Hp} {Q : VK} {E : XK} {vs : List V}
theorem exd_ne {a d : Addr} {H : Hp} {fs : List (Str × V)} {dd : Option Addr} (h : d ≠ a) : upd (upd H d (exd d fs)) a (exo a C dd) d = some (exd d fs) := by rw [upd_ne h, upd_same]
/-- the stores behind super().__init__: the label, then none, one, three fields -/
theorem ost0 (T : OexC K C) (n0 : PySem.W.findIn K (.ref C) "label" = some none) (N : List Str) (h : spE C lab [] vs H Q E) : tOst K "label" (tVar 0) (tC (.str lab)) { nx := fun _ H' => Q .non H', rt := Q } (L2.start ("self" :: N) vs) H := by
  obtain ⟨a, ws, rfl, hl, ha, q⟩ := h
  cases ws with
  | cons _ _ => cases hl
  | nil =>
    refine ⟨.ref a, rfl, a, C, rfl, T, n0, .inl ⟨ha, fun dx hd hne => ?_⟩⟩
    exact q dx _ (fun b o hb e => by rw [upd_ne hb, upd_ne (ne_of_none e hd)]; exact e) hd hne upd_same (exd_ne hne)
theorem ost1 {f : Str} (T : OexC K C) (n0 : PySem.W.findIn K (.ref C) "label" = some none) (n1 : PySem.W.findIn K (.ref C) f = some none) (N : List Str) (h : spE C lab [f] vs H Q E) :
    tSeq (tOst K "label" (tVar 0) (tC (.str lab))) (tOst K f (tVar 0) (tVar 1)) { nx := fun _ H' => Q .non H', rt := Q } (L2.start ("self" :: f :: N) vs) H := by
  obtain ⟨a, ws, rfl, hl, ha, q⟩ := h
  match ws, hl with
  | [v], _ =>
    refine ⟨.ref a, rfl, a, C, rfl, T, n0, .inl ⟨ha, fun dx hd hne => ?_⟩⟩
    refine ⟨v, rfl, .ref a, rfl, a, C, rfl, T, n1, .inr ⟨dx, _, upd_same, exd_ne hne, Nat.le_of_ble_eq_true rfl, ?_⟩⟩
    refine q dx _ (fun b o hb e => ?_) hd hne ?_ upd_same
    · have : b ≠ dx := ne_of_none e hd
      rw [upd_ne this, upd_ne hb, upd_ne this]; exact e
    · rw [upd_ne (Ne.symm hne), upd_same]
theorem ost3 {f g h' : Str} (T : OexC K C) (n0 : PySem.W.findIn K (.ref C) "label" = some none) (n1 : PySem.W.findIn K (.ref C) f = some none) (n2 : PySem.W.findIn K (.ref C) g = some none) (n3 : PySem.W.findIn K (.ref C) h' = some none) (N : List Str) (h : spE C lab [f, g, h'] vs H Q E) :
    tSeq (tOst K "label" (tVar 0) (tC (.str lab))) (tSeq (tOst K f (tVar 0) (tVar 1)) (tSeq (tOst K g (tVar 0) (tVar 2)) (tOst K h' (tVar 0) (tVar 3)))) { nx := fun _ H' => Q .non H', rt := Q } (L2.start ("self" :: f :: g :: h' :: N) vs) H := by
  obtain ⟨a, ws, rfl, hl, ha, q⟩ := h
  match ws, hl with
  | [v, v2, v3], _ =>
    refine ⟨.ref a, rfl, a, C, rfl, T, n0, .inl ⟨ha, fun dx hd hne => ?_⟩⟩
    refine ⟨v, rfl, .ref a, rfl, a, C, rfl, T, n1, .inr ⟨dx, _, upd_same, exd_ne hne, Nat.le_of_ble_eq_true rfl, ?_⟩⟩
    refine ⟨v2, rfl, .ref a, rfl, a, C, rfl, T, n2, .inr ⟨dx, _, by rw [upd_ne (Ne.symm hne), upd_same], upd_same, Nat.le_of_ble_eq_true rfl, ?_⟩⟩
    refine ⟨v3, rfl, .ref a, rfl, a, C, rfl, T, n3, .inr ⟨dx, _, by rw [upd_ne (Ne.symm hne), upd_ne (Ne.symm hne), upd_same], upd_same, Nat.le_of_ble_eq_true rfl, ?_⟩⟩
    refine q dx _ (fun b o hb e => ?_) hd hne ?_ upd_same
    · have : b ≠ dx := ne_of_none e hd
      rw [upd_ne this, upd_ne this, upd_ne this, upd_ne hb, upd_ne this]; exact e
    · rw [upd_ne (Ne.symm hne), upd_ne (Ne.symm hne), upd_ne (Ne.symm hne), upd_same]
end
/-- C() -/
theorem pmk_oex0 {X : Cx} {CX : CXT} {x : Str} {C fI : Addr} {k : Nat} {fd : FuncData} {ps : List Str} {sp : Sp} {p pos : Pos} (T : OexC X.K C) (iC : PySem.W.findIn X.K (.ref C) "__init__" = some (some (.ref fI))) (tI : PySem.W.typeIn X.K (.ref fI) = some (.type "function"))
    (F1 : FnOk X.prog X.w X.K X.mg X.base CX k fI fd ps sp) (hr : Room (k + 1) X.A) (hb : Binds X.K fd ps []) (hx : Passes CX X (fun _ _ _ => False)) (hg : Gl X x) (hm : X.mg x = some (.ref C)) (hdb : (x == ("__debug__" : Str)) = false := by decide) :
    PMk X (.Call (.Name x p) [] [] pos) (tMkO C sp [] tNil) := by
  intro pins s σ H Q I h
  obtain ⟨nm, q, N, bs, bm, sn, sub, ab, col, dd, k0, k1, k2, k3, k5, hC, hbm⟩ := T.cls
  refine wpAny_Call_Name_kw (ld_glob I hg hm ?_ hdb)
  refine PySem.W.callWith_K0 I.kIn T.kC ?_
  obtain ⟨_, q1⟩ := h
  obtain ⟨hp, g, dr, tk, os⟩ := s
  have hsz : hp.objs.size ≤ hp.objs.size + 1 := Nat.le_succ _
  have hn : H (hp.objs.size + 1) = none := I.hok.fresh hsz
  have hq := q1 (hp.objs.size + 1) hn
  have kk : ∀ b o, hp.get? b = some o → ((hp.push (PySem.W.kdv_tup [])).push (PySem.HandSPX.excO C hp.objs.size)).get? b = some o := fun b o e => Heap.get?_push_of_some _ (Heap.get?_push_of_some _ e)
  have hget : ((hp.push (PySem.W.kdv_tup [])).push (PySem.HandSPX.excO C hp.objs.size)).get? (hp.objs.size + 1) = some (PySem.HandSPX.excO C hp.objs.size) := by heap_get
  have I2 := I.laid (t' := tk) (a := hp.objs.size + 1) (o := exo (hp.objs.size + 1) C none) (h' := (hp.push (PySem.W.kdv_tup [])).push (PySem.HandSPX.excO C hp.objs.size)) kk hsz (exo_ok hget)
  have r2 : Vals [V.ref (hp.objs.size + 1)] [Value.ref (hp.objs.size + 1)] := .cons rfl .nil
  have hl : ([Value.ref (hp.objs.size + 1)] ++ []).length = ps.length := by
    have e := F1.len _ _ _ _ hq
    exact e
  have hbb := hb ⟨(hp.push (PySem.W.kdv_tup [])).push (PySem.HandSPX.excO C hp.objs.size), g, dr, tk, os⟩ [Value.ref (hp.objs.size + 1)] I2.kIn hl
  refine wpAny_call (PySem.HandSPX.call_own PySem.F.excBase_ValueError (fun Y => PySem.HandSPX.refsVE_contains Y bm hbm) (I.kIn _ _ hC) (PySem.W.looks_findIn I.kIn iC) (fun self => PySem.W.bind_fn I.kIn self tI) (Nat.zero_le _)
    (codeAny_mono (F1.run _ X.stack _ _ ⟨[Value.ref (hp.objs.size + 1)], []⟩ [Value.ref (hp.objs.size + 1)] _ _ (fun _ _ _ => False) (hr.make C [] []) (I2.env0.make C [] []) hbb r2 hq) fun r s' hq' => ?_))
  cases r with
  | error er => exact hx pins σ _ _ er s' I2 hq'
  | ok fl =>
    cases fl with
    | ret u =>
      obtain ⟨v, H2, os2, bare2, un2, hok2, rv, ev, d, fs, ea, ed, hd1, q2⟩ := hq'
      subst ev
      obtain ⟨h2, g2, d2, t2, os'⟩ := s'
      exact ⟨rv, mk_end (raises_own T.exC T.tyC) I hsz kk un2 hok2 os2 bare2 ea ed hd1 q2⟩
    | next => exact False.elim hq'
    | brk => exact False.elim hq'
    | cont => exact False.elim hq'

section
variable {X : Cx} {pos p ps' : Pos} {e : Expr} {es : List Expr} {G : Gd} {ow owN owL : List Nat} {fs : Env → Rs (List D)} {c : Str} {C fI : Addr} {k : Nat} {fd : FuncData} {ps flds : List Str} {lab : Str}
theorem mk_imp (hmc : G.mg c = some (.ref C)) (hfl : flds.length ≤ 1000) {J : Ends} {σ : L2.St} {H : Hp} (h : cS G ow owN owL (fun γ => liftS (fs γ) γ fun ds => if ds.length = flds.length then .er c (flD flds lab ds) γ else .no) J σ H) :
    tMkO C (spE C lab flds) [] (cA G ow 0 fs) σ H fun cls d H' => G.W cls d σ H' := by
  obtain ⟨B, γ, I, q⟩ := h
  refine ⟨B, γ, I, (OutP.lift I q).imp fun ds q vs B1 H1 x1 hvs => ?_⟩
  split at q
  · rename_i hlen
    have hvl : vs.length = flds.length := by rw [paired_len hvs, hlen]
    refine ⟨by rw [hvl]; exact hfl, fun a ha => ⟨a, vs, by rw [List.append_nil], hvl, upd_same, fun d H2 k hd hda e1 e2 => ⟨rfl, d, _, e1, e2, ?_, ?_⟩⟩⟩
    · rw [upd_ne hda] at hd; exact hd
    · have hd' : H1 d = none := by rw [upd_ne hda] at hd; exact hd
      have hH : Same H1 (upd (del H2 a) d (.xd (flV flds lab vs))) := fun b o eb => by
        have hba : b ≠ a := ne_of_none eb ha
        have hbd : b ≠ d := ne_of_none eb hd'
        rw [upd_ne hbd, del_ne hba]
        exact k b o hba (by rw [upd_ne hba]; exact eb)
      have x2 : Ext B1 H1 B1 (upd (del H2 a) d (.xd (flV flds lab vs))) := ⟨.refl _, hH, x1.s.trans hH, fun _ h _ => h⟩
      obtain ⟨B3, s3, I3⟩ := (I.mono (x1.trans x2)).allF
      exact q C d B3 σ _ _ (x1.b.trans s3) I3 hmc upd_same (fr_of flds lab (Paired.mapP hvs fun _ _ z => Dn.mono s3 z))
  · exact False.elim q
/-- raise C(e, ..) -/
theorem s_raise {CX : CXT} (T : OexC X.K C) (iC : PySem.W.findIn X.K (.ref C) "__init__" = some (some (.ref fI))) (tI : PySem.W.typeIn X.K (.ref fI) = some (.type "function")) (F1 : FnOk X.prog X.w X.K X.mg X.base (L2.CX X.prog X.w) k fI fd ps (spE C lab flds))
    (hr : Room (k + 1) X.A) (hb : Binds X.K fd ps []) (tk : Takes X G.W) (hm : X.mg c = some (.ref C)) (ha : PA X (e :: es) (cA G ow 0 fs)) (hfl : flds.length ≤ 1000 := by decide) (hmc : X.mg = G.mg := by rfl) (hg : Gl X c := by rfl) (hc : X.calm = true := by rfl)
    (hdb : (c == ("__debug__" : Str)) = false := by decide) (he : starEach (e :: es) X.env = (false, eval e X.env) :: starEach es X.env := by rfl) (hpl : (backTo pos (starEach es X.env)).any (·.1) = false := by rfl) :
    PS X (.Raise (some (.Call (.Name c p) (e :: es) [] pos)) none ps') (cS G ow owN owL fun γ => liftS (fs γ) γ fun ds => if ds.length = flds.length then .er c (flD flds lab ds) γ else .no) :=
  (ps_raise hc tk (pmk_oex T iC tI F1 hr hb .nil passL hg hm ha hdb he hpl)).impD fun J σ H h => mk_imp (by rw [← hmc]; exact hm) hfl h
theorem s_raise0 {CX : CXT} (T : OexC X.K C) (iC : PySem.W.findIn X.K (.ref C) "__init__" = some (some (.ref fI))) (tI : PySem.W.typeIn X.K (.ref fI) = some (.type "function")) (F1 : FnOk X.prog X.w X.K X.mg X.base (L2.CX X.prog X.w) k fI fd ps (spE C lab []))
    (hr : Room (k + 1) X.A) (hb : Binds X.K fd ps []) (tk : Takes X G.W) (hm : X.mg c = some (.ref C)) (hmc : X.mg = G.mg := by rfl) (hg : Gl X c := by rfl) (hc : X.calm = true := by rfl) (hdb : (c == ("__debug__" : Str)) = false := by decide) :
    PS X (.Raise (some (.Call (.Name c p) [] [] pos)) none ps') (cS G ow owN owL fun γ => .er c (flD [] lab []) γ) :=
  (ps_raise hc tk (pmk_oex0 T iC tI F1 hr hb passL hg hm hdb)).impD fun J σ H h => by
    obtain ⟨B, γ, I, q⟩ := h
    refine ⟨Nat.zero_le _, fun a ha => ⟨a, [], rfl, rfl, upd_same, fun d H2 k hd hda e1 e2 => ⟨rfl, d, _, e1, e2, ?_, ?_⟩⟩⟩
    · rw [upd_ne hda] at hd; exact hd
    · have hd' : H d = none := by rw [upd_ne hda] at hd; exact hd
      have hH : Same H (upd (del H2 a) d (.xd (flV [] lab []))) := fun b o eb => by
        have hba : b ≠ a := ne_of_none eb ha
        have hbd : b ≠ d := ne_of_none eb hd'
        rw [upd_ne hbd, del_ne hba]
        exact k b o hba (by rw [upd_ne hba]; exact eb)
      have x2 : Ext B H B (upd (del H2 a) d (.xd (flV [] lab []))) := ⟨.refl _, hH, I.s.trans hH, fun _ h _ => h⟩
      obtain ⟨B3, s3, I3⟩ := (I.mono x2).allF
      exact q C d B3 σ _ _ s3 I3 (by rw [← hmc]; exact hm) upd_same (fr_of [] lab .nil)
end

/-! ### a def's promise on data -/
def spD (K : PySem.W.Frag) (mg : Str → Option Value) (n : Nat) (F : List D → Rs D) : Sp := fun vs H Q E => vs.length = n ∧ ∃ B ds, Same B H ∧ Paired (Dn K B) vs ds ∧ match F ds with
  | .ok d => ∀ v B' H', Ext B H B' H' → Dn K B' v d → Q v H'
  | .er c fs => ∀ C dd B' H' fs', Ext B H B' H' → mg c = some (.ref C) → H' dd = some (.xd fs') → Paired (fun (p : Str × V) (q : Str × D) => p.1 = q.1 ∧ Dn K B' p.2 q.2) fs' fs → E (.ref C) (some dd) H'
  | .no => False
theorem spD_len {K : PySem.W.Frag} {mg : Str → Option Value} {n : Nat} {F : List D → Rs D} : ∀ vs H Q E, spD K mg n F vs H Q E → vs.length = n := fun _ _ _ _ h => h.1
/-- a def's body as a function of its arguments -/
def callS (m : Nat) (f : Env → Out) (ds : List D) : Rs D := match f (ds.map some ++ List.replicate (m - ds.length) none) with
  | .rt d => .ok d
  | .nx _ => .ok .none
  | .er c fs _ => .er c fs
  | _ => .no
theorem spD_imp {K : PySem.W.Frag} {mg : Str → Option Value} {n : Nat} {F F' : List D → Rs D} (h : ∀ ds, F ds = F' ds) {vs : List V} {H : Hp} {Q : VK} {E : XK} (s : spD K mg n F' vs H Q E) : spD K mg n F vs H Q E := by
  have : F = F' := funext h
  rw [this]; exact s
section
variable {P : Program} {w : World} {K : PySem.W.Frag} {mg : Str → Option Value} {base : Heap}
theorem ok_of {x qual : Str} {st : Stmt} {f : Addr} {fd : FuncData} {N ps : List Str} {k : Nat} {g : Env → Out} {owN : List Nat} (F : Fun K x qual st f fd) (S : FnScope N ps (defScope st))
    (hbody : ∀ (cdv : Value) (A : Around) (outer : List PySem.Env) (s : Shared) (H B : Hp) (E : XK), Room k (A.deeper (envOfC qual (defScope st) s.heap.objs.size f cdv)) →
      PSs (cxOf (L2.CX P w) P w K mg base N qual (defScope st) f cdv A outer s H E) (defBody st) (cS ⟨K, mg, fun cls d _ H' => E cls d H', B, H, none⟩ (List.replicate N.length 0) owN [] g)) :
    FnOk P w K mg base (L2.CX P w) (k + 1) f fd ps (spD K mg ps.length (callS N.length g)) := by
  refine F.okX S (fun vs H Q E h => h.1) fun cdv A outer s H vs Q E hr h => ?_
  obtain ⟨hl, B, ds, sB, hds, h⟩ := h
  refine ⟨_, hbody cdv A outer s H B E hr, ?_⟩
  refine ⟨B, ds.map some ++ List.replicate (N.length - ds.length) none, ⟨sB, .refl sB, ?_, (fun t z => nomatch z), fun _ _ => False, fun _ _ z => False.elim z, fun _ _ _ z => False.elim z, fun i d e => ?_⟩, ?_⟩
  · unfold L2.start
    rw [List.length_append, List.length_append, List.length_map, List.length_map, List.length_replicate, List.length_replicate, paired_len hds]
  · have hi : i < ds.length := by
      by_cases hi : i < ds.length
      · exact hi
      · rw [List.getElem?_append_right (by rw [List.length_map]; omega), List.getElem?_replicate] at e
        split at e <;> cases e
    rw [List.getElem?_append_left (by rw [List.length_map]; exact hi), List.getElem?_map, Option.map_eq_some_iff] at e
    obtain ⟨z, e1, e2⟩ := e
    cases e2
    obtain ⟨v, e3, e4⟩ := (DnAll.of_paired hds).get e1
    refine ⟨v, ?_, ?_⟩
    · unfold L2.start
      rw [List.getElem?_append_left (by rw [List.length_map, paired_len hds]; exact hi), List.getElem?_map, e3]
      rfl
    · have : (List.replicate N.length 0).getD i 0 = 0 := by
        rw [List.getD_eq_getElem?_getD, List.getElem?_replicate]
        split <;> rfl
      rw [this]
      exact e4
  · unfold callS at h
    cases hf : g (ds.map some ++ List.replicate (N.length - ds.length) none) with
    | rt d =>
      rw [hf] at h
      exact fun v B' H' s' x hv => h v B' H' x hv
    | nx γ =>
      rw [hf] at h
      exact fun B' σ' H' s' I => h .non B' H' I.e .non
    | er c fs γ =>
      rw [hf] at h
      exact fun C dd B' σ' H' fs' s' I h1 h2 h3 => h C dd B' H' fs' I.e h1 h2 h3
    | bk γ => rw [hf] at h; exact False.elim h
    | ct γ => rw [hf] at h; exact False.elim h
    | no => rw [hf] at h; exact False.elim h
end
section
variable {X : Cx} {x : Str} {p pos : Pos} {e : Expr} {es : List Expr} {G : Gd} {ow : List Nat} {fs : Env → Rs (List D)} {k n : Nat} {f : Addr} {fd : FuncData} {ps : List Str} {F : List D → Rs D}
theorem call_imp (hK : X.K = G.K) (hmc : X.mg = G.mg) {σ : L2.St} {H : Hp} {Q : VK} {B : Hp} {γ : Env} (I : EnvR G ow B H σ γ) {ds : List D} {vs : List V} {B1 H1 : Hp} (x1 : Ext B H B1 H1) (hvs : Paired (DnF G.K B1 H1 0) vs ds) (hn : vs.length = n)
    (q : RsP G σ B H (F ds) fun d => ∀ v B' H', Ext B H B' H' → DnF G.K B' H' 0 v d → Q v H') : spD X.K X.mg n F vs H1 Q (WE G.W σ) := by
  refine ⟨hn, B1, ds, x1.s, by rw [hK]; exact hvs, ?_⟩
  cases hF : F ds with
  | ok d =>
    rw [hF] at q
    exact fun v B' H' x2 hv => q v B' H' (x1.trans x2) (by rw [← hK]; exact hv)
  | er c fs =>
    rw [hF] at q
    exact fun C dd B' H' fs' x2 h1 h2 h3 => q C dd B' H' fs' (x1.trans x2) (by rw [← hmc]; exact h1) h2 (by show Paired (fun (p : Str × V) (q : Str × D) => p.1 = q.1 ∧ Dn G.K B' p.2 q.2) fs' fs; rw [← hK]; exact h3)
  | no => rw [hF] at q; exact False.elim q
def nArgs (n : Nat) (F : List D → Rs D) (ds : List D) : Rs D := if ds.length = n then F ds else .no
theorem d_call (Fn : FnOk X.prog X.w X.K X.mg X.base (L2.CX X.prog X.w) k f fd ps (spD X.K X.mg n F)) (hr : Room k X.A) (hm : X.mg x = some (.ref f)) (hk : PySem.W.keepIn X.K (.ref f) = true) (hb : Binds X.K fd ps []) (tk : Takes X G.W) (ha : PA X (e :: es) (cA G ow 0 fs))
    (hg : Gl X x := by rfl) (hK : X.K = G.K := by rfl) (hmc : X.mg = G.mg := by rfl) (hdb : (x == ("__debug__" : Str)) = false := by decide) (he : starEach (e :: es) X.env = (false, eval e X.env) :: starEach es X.env := by rfl) (hpl : (backTo pos (starEach es X.env)).any (·.1) = false := by rfl) :
    PE X (.Call (.Name x p) (e :: es) [] pos) (cV G ow 0 fun γ => (fs γ).bind fun ds => nArgs n F ds) :=
  (pe_callS Fn hr hg hm hk hb (fun σ => passAt tk σ) ha hdb he hpl).impD fun σ H Q ⟨B, γ, I, q⟩ => ⟨B, γ, I, q.bind.imp fun ds q vs B1 H1 x1 hvs => by
    unfold nArgs at q
    split at q
    · rename_i hn
      exact call_imp hK hmc I x1 hvs (by rw [paired_len hvs, hn]) q
    · exact False.elim q⟩
theorem d_call0 (Fn : FnOk X.prog X.w X.K X.mg X.base (L2.CX X.prog X.w) k f fd ps (spD X.K X.mg 0 F)) (hr : Room k X.A) (hm : X.mg x = some (.ref f)) (hk : PySem.W.keepIn X.K (.ref f) = true) (hb : Binds X.K fd ps [])
    (hno : ∀ c fs, F [] ≠ .er c fs) (hg : Gl X x := by rfl) (hK : X.K = G.K := by rfl) (hmc : X.mg = G.mg := by rfl) (hdb : (x == ("__debug__" : Str)) = false := by decide) :
    PE X (.Call (.Name x p) [] [] pos) (cV G ow 0 fun _ => F []) :=
  (pe_call0 Fn hr hg hm hk hb .nil passL hdb).impD fun σ H Q ⟨B, γ, I, q⟩ => by
    refine ⟨rfl, B, [], I.s, .nil, ?_⟩
    cases hF : F [] with
    | ok d =>
      rw [hF] at q
      exact fun v B' H' x2 hv => q v B' H' x2 (by rw [← hK]; exact hv)
    | er c fs => exact absurd hF (hno c fs)
    | no => rw [hF] at q; exact False.elim q
end
end DL
set_option Elab.async false
set_option linter.all false
set_option maxRecDepth 100000
set_option maxHeartbeats 4000000
/-! The data layer: try with several except clauses, with and without a name. -/
namespace DL
open PySem PySem.Spec PyProof.Rows L2

abbrev Sui : Type := Addr → Value → Option Addr → TS
/-- behind a suite that bears a name in slot i -/
def goneE (D : Ends) (i : Nat) : Ends := { nx := fun σ H => D.nx (σ.set i none) H, rt := D.rt, bk := fun σ H => D.bk (σ.set i none) H, ct := fun σ H => D.ct (σ.set i none) H }
def wMix (K : PySem.W.Frag) (Wout : WX) (D : Ends) : List (Value × Option Nat × Sui) → WX
  | [] => Wout
  | (c, none, ts) :: r => fun cls d σ H => ∃ b, PySem.W.exmOne K cls c = some b ∧ (b = true → ∀ a, H a = none → ts a cls d D σ H) ∧ (b = false → wMix K Wout D r cls d σ H)
  | (c, some i, ts) :: r => fun cls d σ H => ∃ b, PySem.W.exmOne K cls c = some b ∧ (b = true → ∀ a, H a = none → ts a cls d (goneE D i) (σ.set i (some (.ref a))) H) ∧ (b = false → wMix K Wout D r cls d σ H)
def SuiOk (X : Cx) (suite : List Stmt) (ts : Sui) : Prop := ∀ (a : Addr) (oe : Obj) (cls : Value) (d : Option Addr) (pn : List (Addr × Obj)), Zc cls d oe → (∃ vs, oe.data = .fields vs) → PSs (X.suite a ((a, oe) :: pn)) suite (ts a cls d)
inductive MixOk (X : Cx) : List ExceptHandler → List (Value × Option Nat × Sui) → Prop
  | nil : MixOk X [] []
  | bare {x : Str} {c : Value} {ts : Sui} {b₀ : Stmt} {suite : List Stmt} {np pos' : Pos} {hds : List ExceptHandler} {l : List (Value × Option Nat × Sui)} (hc : Names X x c) (hsu : SuiOk X (b₀ :: suite) ts) (r : MixOk X hds l) :
      MixOk X (.ExceptHandler (some (.Name x np)) none (b₀ :: suite) pos' :: hds) ((c, none, ts) :: l)
  | named {x n : Str} {i : Nat} {c : Value} {ts : Sui} {b₀ : Stmt} {suite : List Stmt} {np pos' : Pos} {hds : List ExceptHandler} {l : List (Value × Option Nat × Sui)} (hc : Names X x c) (hi : X.N[i]? = some n) (hln : X.env.kindOf n = some .local) (hsu : SuiOk X (b₀ :: suite) ts) (r : MixOk X hds l) :
      MixOk X (.ExceptHandler (some (.Name x np)) (some n) (b₀ :: suite) pos' :: hds) ((c, some i, ts) :: l)

section
variable {X : Cx} {body : List Stmt} {h₀ : ExceptHandler} {hds : List ExceptHandler} {l : List (Value × Option Nat × Sui)} {pos : Pos} {tb : WX → TS} {Wout : WX}
/-- the end of a body or a suite, one level out -/
theorem sp_out {X Y : Cx} {pins pins' : List (Addr × Obj)} {D : Ends} {f : Flow} {s : Shared} (h : SP X pins D f s) (hI : ∀ σ H, Inv X pins σ H s → Inv Y pins' σ H s) : SP Y pins' D f s := by
  cases f with
  | ret u => obtain ⟨v, σ, H, J, r, q⟩ := h; exact ⟨v, σ, H, hI σ H J, r, q⟩
  | next => obtain ⟨σ, H, J, q⟩ := h; exact ⟨σ, H, hI σ H J, q⟩
  | brk => obtain ⟨σ, H, J, q⟩ := h; exact ⟨σ, H, hI σ H J, q⟩
  | cont => obtain ⟨σ, H, J, q⟩ := h; exact ⟨σ, H, hI σ H J, q⟩
/-- no clause takes it: it goes on -/
theorem pass_on {pins : List (Addr × Obj)} {D : Ends} {a : Addr} {B : Heap} {sI s' : Shared} {σ' : L2.St} {H' : Hp} {cls : Value} {d : Option Addr} {h3 : Heap} (hs : X.stack = X.env :: X.outer) (hf : X.env.frame = some X.env.locals) (tk : Takes X Wout)
    (fl3 : HandSPX.FlyingZ B (X.env :: X.outer) a (Zc cls d) h3) (J : Inv X pins σ' H' sI) (nb : ∀ b o, sI.heap.get? b = some o → b ∉ frs X.stack → B.get? b = some o) (up : sI.heap.UpToSlots h3) (na : H' a = none) (os : s'.os = sI.os) (ag : AllBare s'.gens) (w : Wout cls d σ' H') :
    wpAny (model X.prog X.w) X.A (handleBy (.ref a) X.env []) (SP X pins D) X.xe { s' with heap := h3 } := by
  obtain ⟨k1, k2, k3, oe, vs, T, oT, ts', he, hz, hd, h1, hr⟩ := id fl3
  refine wpAny_handleBy_nil ?_
  have fin : wpAny (model X.prog X.w) X.A (setFlight (.ref a) X.env.frame) (fun _ s4 => wpAny (model X.prog X.w) X.A (throw (.ref a) : Sem Flow) (SP X pins D) X.xe s4) X.xe { s' with heap := h3 } := by
    rw [hf]
    exact HandSPX.setFlight_upZ fl3 fun h4 hh4 up4 => wpAny_throw (tk _ _ ⟨a, B, sI, pins, σ', H', cls, d, rfl, J, nb, up.trans up4, .inr (.inr (by rw [hs]; exact hh4)), na, os, ag, w⟩)
  unfold PySem.passOn
  refine wpAny_bind (wpAny_field he hd h1 ?_)
  have ne : ¬ ((Value.ref T == Value.none) = true) := by simp
  rw [if_neg ne]
  first
    | exact wpAny_bind (wpAny_pure (wpAny_bind fin))
    | exact wpAny_bind fin
theorem ps_try_mix (hN : X.N.Nodup) (hs : X.stack = X.env :: X.outer) (hf : X.env.frame = some X.env.locals) (tk : Takes X Wout)
    (hb : ∀ (W : WX) (pn : List (Addr × Obj)) (xe : Value → Shared → Prop), Takes (X.tr pn xe) W → PassesOwn (model X.prog X.w) X.A X.env xe → PSs (X.tr pn xe) body (tb W))
    (hh : MixOk X (h₀ :: hds) l) : PS X (.Try body (h₀ :: hds) [] [] pos) (fun D σ H => tb (wMix X.K Wout D l) D σ H) := by
  refine ⟨fun pins s σ H D I h => ?_⟩
  have ok := I.ok
  refine wpAny_Try_except ?_
  refine wpAny_mono ((hb (wMix X.K Wout D l) (X.pn ++ pins) (fun e s₁ => wpAny (model X.prog X.w) X.A (noteFrame e X.env) (fun _ s₂ => wpAny (model X.prog X.w) X.A (setFlight e none) (fun _ s₃ =>
    wpAny (model X.prog X.w) X.A (handleBy e X.env (h₀ :: hds)) (SP X pins D) X.xe s₃) X.xe s₂) X.xe s₁) (fun u s' xx => ?_) PassesOwn.looking).run [] s σ H D (I.toTry _) h) (fun f s1 hsp => ?_) (fun e s1 he => he)
  · obtain ⟨a, B, sI, pins', σ', H', cls, d, rfl, J', nb, up, sky, na, os, ag, w⟩ := xx
    have J : Inv X pins σ' H' sI := J'.ofTry ok
    have hfr : X.A.frames = some (X.env :: X.outer) := by rw [ok.frames, hs]
    have sky' : Sky B (X.env :: X.outer) a (Zc cls d) X.env.locals s'.heap := by rw [← hs]; exact sky
    show wpAny (model X.prog X.w) X.A (noteFrame (.ref a) X.env) _ _ _
    refine Sky.land Zc.steady hfr hf sky' fun h3 fl3 up3 => ?_
    have J3 : Inv X pins σ' H' { s' with heap := h3 } := J.landed nb fl3.1 (up.trans up3) os ag
    obtain ⟨oe3, vs3, he3, hz3, hd3⟩ := fl3.there
    have nfr : a ∉ frs (X.env :: X.outer) := fun hm => by
      obtain ⟨_, o', e', hnf⟩ := fl3.2.2.1.mem hm
      rw [he3] at e'
      cases e'
      exact hnf _ hd3
    have nL : a ≠ X.env.locals := fun z => nfr (List.mem_filterMap.mpr ⟨X.env, List.mem_cons_self, by rw [hf, z]⟩)
    have nF : a ∉ X.fs := fun hm => by
      obtain ⟨e, he, q⟩ := List.mem_filterMap.mp hm
      exact nfr (List.mem_filterMap.mpr ⟨e, List.mem_cons_of_mem _ he, q⟩)
    have S3 := J3.suite he3 hd3 na nL nF
    have LT : PySem.W.Looks (model X.prog X.w) h3 (typeOf (.ref a)) cls := fun A Q E s k q => wpAny_typeOf_ref (k _ _ he3) (by rw [hz3.1]; exact q)
    have test : ∀ {x : Str} {c : Value} {np : Pos} {Q : Value → Shared → Prop} {E : Value → Shared → Prop}, Names X x c → Q c { s' with heap := h3 } → wpAny (model X.prog X.w) (X.A.mark (some (.ref a))) (eval (.Name x np) X.env) Q E { s' with heap := h3 } := fun {x c np Q E} hc q => by
      obtain ⟨hg, hdbg, hm⟩ := hc
      rcases hm with hm | ⟨hm, hv, hnn⟩
      · exact ld_glob (X := X.suite a ((a, oe3) :: (X.pn ++ pins))) S3 hg hm q hdbg
      · exact ld_blt (X := X.suite a ((a, oe3) :: (X.pn ++ pins))) S3 hg hm hv q hnn hdbg
    have again : ∀ {Q : Unit → Shared → Prop}, (∀ s4 oe4, Inv (X.suite a ((a, oe4) :: (X.pn ++ pins))) [] σ' H' s4 → Zc cls d oe4 → (∃ vs, oe4.data = .fields vs) → Q () s4) → wpAny (model X.prog X.w) (X.A.mark (some (.ref a))) (setFlight (.ref a) none) Q (fun _ _ => False) { s' with heap := h3 } := fun {Q} hq => by
      refine HandSPX.lands_againZ fl3 fun h4 fl4 up4 => ?_
      have J4 : Inv X pins σ' H' { s' with heap := h4 } := J.landed nb fl4.1 ((up.trans up3).trans up4) os ag
      obtain ⟨oe4, vs4, he4, hz4, hd4⟩ := fl4.there
      exact hq _ oe4 (J4.suite he4 hd4 na nL nF) hz4 ⟨_, hd4⟩
    have go : ∀ {hds' : List ExceptHandler} {l' : List (Value × Option Nat × Sui)}, MixOk X hds' l' → wMix X.K Wout D l' cls d σ' H' →
        wpAny (model X.prog X.w) X.A (handleBy (.ref a) X.env hds') (SP X pins D) X.xe { s' with heap := h3 } := by
      intro hds' l' hk
      induction hk with
      | nil => exact fun w => pass_on hs hf tk fl3 J nb (up.trans up3) na os ag w
      | bare hc hsu r ih =>
        intro w
        obtain ⟨b, hb1, hyes, hno⟩ := w
        refine wpAny_handleBy_cons (codeAny_handlers_test ?_) (by intro q; cases q)
        refine test hc ((PySem.W.exm_one (M := model X.prog X.w) J3.kIn LT hb1).here ?_)
        cases b with
        | false => exact ih (hno rfl)
        | true =>
          refine codeAny_handlers_suite ?_
          refine wpAny_mono (again (Q := fun _ s4 => ∃ oe4, Inv (X.suite a ((a, oe4) :: (X.pn ++ pins))) [] σ' H' s4 ∧ Zc cls d oe4 ∧ ∃ vs, oe4.data = .fields vs) fun s4 oe4 S4 hz4 hd4 => ⟨oe4, S4, hz4, hd4⟩) (fun _ s4 h4 => ?_) (fun _ _ z => False.elim z)
          obtain ⟨oe4, S4, hz4, hd4⟩ := h4
          exact wpAny_mono ((hsu a oe4 cls d (X.pn ++ pins) hz4 hd4).run [] _ _ H' _ S4 (hyes rfl a na)) (fun f s6 hsp => sp_out hsp fun _ _ S => S.unsuite ok) (fun _ _ z => False.elim z)
      | @named x n i c ts b₀ suite np pos' hds2 l2 hc hi hln hsu r ih =>
        intro w
        obtain ⟨b, hb1, hyes, hno⟩ := w
        refine wpAny_handleBy_cons (codeAny_handlers_test ?_) (by intro q; cases q)
        refine test hc ((PySem.W.exm_one (M := model X.prog X.w) J3.kIn LT hb1).here ?_)
        cases b with
        | false => exact ih (hno rfl)
        | true =>
          refine codeAny_handlers_suite_as ?_
          refine wpAny_mono (again (Q := fun _ s4 => ∃ oe4, Inv (X.suite a ((a, oe4) :: (X.pn ++ pins))) [] σ' H' s4 ∧ Zc cls d oe4 ∧ ∃ vs, oe4.data = .fields vs) fun s4 oe4 S4 hz4 hd4 => ⟨oe4, S4, hz4, hd4⟩) (fun _ s4 h4 => ?_) (fun _ _ z => False.elim z)
          obtain ⟨oe4, S4, hz4, hd4⟩ := h4
          refine store_ok (X := X.suite a ((a, oe4) :: (X.pn ++ pins))) (v := .ref a) S4 hN hi (.inl hln) rfl (fun s5 S5 => ?_) (.inr hln)
          refine wpAny_mono ((hsu a oe4 cls d (X.pn ++ pins) hz4 hd4).run [] s5 _ H' _ S5 (hyes rfl a na)) (fun f s6 hsp => ?_) (fun _ _ z => False.elim z)
          have end_ : ∀ {σ6 : L2.St} {H6 : Hp} {Q : Shared → Prop}, Inv (X.suite a ((a, oe4) :: (X.pn ++ pins))) [] σ6 H6 s6 → (∀ s7, Inv X pins (σ6.set i none) H6 s7 → Q s7) →
              wpAny (model X.prog X.w) X.A (do bindName X.env n .none; unbindBehindTheSuite X.env n pos') (fun _ s7 => Q s7) X.xe s6 := fun {σ6 H6 Q} S6 hq => gone_ok (S6.unsuite ok) hN hi hln hq
          cases f with
          | ret u => obtain ⟨v6, σ6, H6, S6, r6, q6⟩ := hsp; exact end_ S6 fun s7 J7 => ⟨_, _, _, J7, r6, q6⟩
          | next => obtain ⟨σ6, H6, S6, q6⟩ := hsp; exact end_ S6 fun s7 J7 => ⟨_, _, J7, q6⟩
          | brk => obtain ⟨σ6, H6, S6, q6⟩ := hsp; exact end_ S6 fun s7 J7 => ⟨_, _, J7, q6⟩
          | cont => obtain ⟨σ6, H6, S6, q6⟩ := hsp; exact end_ S6 fun s7 J7 => ⟨_, _, J7, q6⟩
    exact go hh w
  · have hsp' : SP X pins D f s1 := sp_out hsp fun _ _ J => J.ofTry ok
    cases f with
    | next =>
      obtain ⟨σ', H', J', q⟩ := hsp'
      exact wpAny_execs_nil ⟨σ', H', J', q⟩
    | brk => exact hsp'
    | cont => exact hsp'
    | ret u => exact hsp'
end

/-! ### on data -/
/-- class c is caught by a clause that names h -/
def isSub (c h : Str) : Bool := c == h || h == "TrickError"
abbrev HFn : Type := List (Str × D) → Env → Out
def rtO : Out → Out
  | .rt d => .rt d
  | _ => .no
def gone (γ : Env) : Option Nat → Option Env
  | none => some γ
  | some i => if i < γ.length then some (γ.set i none) else none
def catchS (c : Str) (fs : List (Str × D)) (γ : Env) : List (Str × Option Nat × HFn) → Out
  | [] => .er c fs γ
  | (h, o, f) :: r => if isSub c h = true then (match gone γ o with
    | some γ1 => rtO (f fs γ1)
    | none => .no) else catchS c fs γ r
def tryS (errs : List Str) (g : Env → Out) (l : List (Str × Option Nat × HFn)) : Env → Out := fun γ => match g γ with
  | .er c fs γ' => if errs.contains c = true then catchS c fs γ' l else .no
  | o => o
/-- the ground of a suite -/
abbrev Gd.sui (G : Gd) (o : Option Nat) (a dd : Addr) (fs' : List (Str × V)) (B H : Hp) : Gd := { K := G.K, mg := G.mg, W := fun _ _ _ _ => False, B := B, H := H, x := o.map fun i => (i, a, dd, fs') }
def suiX (G : Gd) (cv : Value) (o : Option Nat) (f : HFn) : Sui := fun a cls d J σ H => ∃ B γ dd fs' fs dv, d = some dd ∧ (o.isSome = true → cls = cv) ∧ H dd = some (.xd fs') ∧ FR G B fs' fs ∧ EnvR (G.sui o a dd fs' B H) [] B H σ γ ∧ f fs γ = .rt dv ∧ ∀ v B' H', Ext B H B' H' → Dn G.K B' v dv → J.rt v H'
theorem sui_ok {X : Cx} {G : Gd} {suite : List Stmt} {cv : Value} {o : Option Nat} {f : HFn} (h : ∀ (a : Addr) (oe : Obj) (cls : Value) (d : Option Addr) (pn : List (Addr × Obj)) (B H : Hp) (dd : Addr) (fs' : List (Str × V)) (fs : List (Str × D)), Zc cls d oe → (∃ vs, oe.data = .fields vs) → d = some dd → (o.isSome = true → cls = cv) → FR G B fs' fs →
      PSs (X.suite a ((a, oe) :: pn)) suite (cS (G.sui o a dd fs' B H) [] [] [] (f fs))) : SuiOk X suite (suiX G cv o f) := fun a oe cls d pn hz hf => ⟨fun pins s σ H J I q => by
  obtain ⟨B, γ, dd, fs', fs, dv, rfl, hcl, hxd, hfr, I', hdv, q⟩ := q
  refine (h a oe cls _ pn B H dd fs' fs hz hf rfl hcl hfr).run pins s σ H J I ⟨B, γ, I', ?_⟩
  rw [hdv]
  exact fun v B' H' _ x hv => q v B' H' x hv⟩
inductive CatOk (X : Cx) (G : Gd) (errs : List Str) : List ExceptHandler → List (Str × Option Nat × HFn) → List (Value × Option Nat × Sui) → Prop
  | nil : CatOk X G errs [] [] []
  | bare {h : Str} {c : Value} {f : HFn} {b₀ : Stmt} {suite : List Stmt} {np pos' : Pos} {hds : List ExceptHandler} {l : List (Str × Option Nat × HFn)} {m : List (Value × Option Nat × Sui)} (hc : Names X h c) (hm : ∀ e ∈ errs, ∀ C, G.mg e = some (.ref C) → PySem.W.exmOne X.K (.ref C) c = some (isSub e h))
      (hsu : SuiOk X (b₀ :: suite) (suiX G c none f)) (r : CatOk X G errs hds l m) : CatOk X G errs (.ExceptHandler (some (.Name h np)) none (b₀ :: suite) pos' :: hds) ((h, none, f) :: l) ((c, none, suiX G c none f) :: m)
  | named {h n : Str} {i : Nat} {C : Addr} {f : HFn} {b₀ : Stmt} {suite : List Stmt} {np pos' : Pos} {hds : List ExceptHandler} {l : List (Str × Option Nat × HFn)} {m : List (Value × Option Nat × Sui)} (hc : Names X h (.ref C)) (hgc : G.mg h = some (.ref C)) (hT : (h == ("TrickError" : Str)) = false) (hm : ∀ e ∈ errs, ∀ C', G.mg e = some (.ref C') → PySem.W.exmOne X.K (.ref C') (.ref C) = some (isSub e h))
      (hi : X.N[i]? = some n) (hln : X.env.kindOf n = some .local) (hsu : SuiOk X (b₀ :: suite) (suiX G (.ref C) (some i) f)) (r : CatOk X G errs hds l m) :
      CatOk X G errs (.ExceptHandler (some (.Name h np)) (some n) (b₀ :: suite) pos' :: hds) ((h, some i, f) :: l) ((.ref C, some i, suiX G (.ref C) (some i) f) :: m)
theorem CatOk.mix {X : Cx} {G : Gd} {errs : List Str} {hds : List ExceptHandler} {l : List (Str × Option Nat × HFn)} {m : List (Value × Option Nat × Sui)} (h : CatOk X G errs hds l m) : MixOk X hds m := by
  induction h with
  | nil => exact .nil
  | bare hc hm hsu r ih => exact .bare hc hsu ih
  | named hc hgc hT hm hi hln hsu r ih => exact .named hc hi hln hsu ih
theorem rtO_rt {G : Gd} {owN owL : List Nat} {B : Hp} {J : Ends} {o : Out} (h : OutP G owN owL B J (rtO o)) : ∃ d, o = .rt d ∧ ∀ v B' H', Same B B' → Ext G.B G.H B' H' → Dn G.K B' v d → J.rt v H' := by
  cases o with
  | rt d => exact ⟨d, rfl, h⟩
  | nx _ => exact h.elim
  | bk _ => exact h.elim
  | ct _ => exact h.elim
  | er _ _ _ => exact h.elim
  | no => exact h.elim
theorem CatOk.wish {X : Cx} {G : Gd} {errs : List Str} {owN owL : List Nat} {B : Hp} {J : Ends} {c : Str} {fs : List (Str × D)} {γ : Env} (hx : G.x = none) (he : errs.contains c = true) {C dd : Addr} {B' H' : Hp} {σ' : L2.St} {fs' : List (Str × V)} (s : Same B B') (I : EnvR G [] B' H' σ' γ) (hmc : G.mg c = some (.ref C)) (hxd : H' dd = some (.xd fs')) (hfr : FR G B' fs' fs)
    {hds : List ExceptHandler} {l : List (Str × Option Nat × HFn)} {m : List (Value × Option Nat × Sui)} (h : CatOk X G errs hds l m) : OutP G owN owL B J (catchS c fs γ l) → wMix X.K G.W J m (.ref C) (some dd) σ' H' := by
  have hmem : c ∈ errs := by simpa using he
  have vv : ∀ i d, γ[i]? = some (some d) → ∃ v, σ'[i]? = some (some v) ∧ Dn G.K B' v d := fun i d e => by
    obtain ⟨own, _, _, h3⟩ := I.v
    obtain ⟨v, e1, r⟩ := h3 i d e
    exact ⟨v, e1, r⟩
  induction h with
  | nil => exact fun q => q C dd B' σ' H' fs' s I hmc hxd hfr
  | @bare h c' f _ _ _ _ _ _ _ hc hm hsu r ih =>
    intro q
    unfold catchS at q
    refine ⟨isSub c h, hm c hmem C hmc, fun hb a ha => ?_, fun hb => ?_⟩
    · rw [if_pos hb] at q
      obtain ⟨dv, e1, q⟩ := rtO_rt (show OutP G owN owL B J (rtO (f fs γ)) from q)
      exact ⟨B', γ, dd, fs', fs, dv, rfl, (fun z => nomatch z), hxd, hfr, ⟨I.s, .refl I.s, I.len, (fun t z => nomatch z), fun _ _ => False, fun _ _ z => False.elim z, fun _ _ _ z => False.elim z, vv⟩, e1, fun v B2 H2 x hv => q v B2 H2 (s.trans x.b) (I.e.trans x) hv⟩
    · rw [if_neg (by rw [hb]; decide)] at q
      exact ih q
  | @named h n i C' f _ _ _ _ _ _ _ hc hgc hT hm hi hln hsu r ih =>
    intro q
    unfold catchS at q
    refine ⟨isSub c h, hm c hmem C hmc, fun hb a ha => ?_, fun hb => ?_⟩
    · rw [if_pos hb] at q
      unfold gone at q
      dsimp only at q
      split at q
      · rename_i γ1 hγ1
        split at hγ1
        · rename_i hlt
          cases hγ1
          obtain ⟨dv, e1, q⟩ := rtO_rt q
          have hch : c = h := by
            unfold isSub at hb
            rw [hT, Bool.or_false] at hb
            simpa using hb
          subst hch
          rw [hgc] at hmc
          cases hmc
          refine ⟨B', γ.set i none, dd, fs', fs, dv, rfl, fun _ => rfl, hxd, hfr, ⟨I.s, .refl I.s, by rw [List.length_set, List.length_set, I.len], fun t z => ?_, fun _ _ => False, fun _ _ z => False.elim z, fun _ _ _ z => False.elim z, fun j d e => ?_⟩, e1, fun v B2 H2 x hv => q v B2 H2 (s.trans x.b) (I.e.trans x) hv⟩
          · cases z
            exact ⟨List.getElem?_set_self (by rw [← I.len]; exact hlt), hxd⟩
          · by_cases z : j = i
            · subst z
              rw [List.getElem?_set_self hlt] at e
              cases e
            · rw [List.getElem?_set_ne (Ne.symm z)] at e
              obtain ⟨v, e2, e3⟩ := vv j d e
              exact ⟨v, by rw [List.getElem?_set_ne (Ne.symm z)]; exact e2, e3⟩
        · cases hγ1
      · exact False.elim q
    · rw [if_neg (by rw [hb]; decide)] at q
      exact ih q
section
variable {X : Cx} {body : List Stmt} {h₀ : ExceptHandler} {hds : List ExceptHandler} {pos : Pos} {G : Gd} {ow owN owL : List Nat} {g : Env → Out}
theorem s_try (errs : List Str) {l : List (Str × Option Nat × HFn)} {m : List (Value × Option Nat × Sui)} (hN : X.N.Nodup) (tk : Takes X G.W)
    (hb : ∀ (W : WX) (pn : List (Addr × Obj)) (xe : Value → Shared → Prop), Takes (X.tr pn xe) W → PassesOwn (model X.prog X.w) X.A X.env xe → PSs (X.tr pn xe) body (cS { G with W := W } ow owN owL g)) (hh : CatOk X G errs (h₀ :: hds) l m)
    (hs : X.stack = X.env :: X.outer := by rfl) (hf : X.env.frame = some X.env.locals := by rfl) (hx : G.x = none := by rfl) : PS X (.Try body (h₀ :: hds) [] [] pos) (cS G ow owN owL (tryS errs g l)) :=
  (ps_try_mix (tb := fun W => cS { G with W := W } ow owN owL g) hN hs hf tk hb hh.mix).impD fun J σ H ⟨B, γ, I, q⟩ => by
    refine ⟨B, γ, ⟨I.s, I.e, I.len, I.x, I.v⟩, ?_⟩
    unfold tryS at q
    cases hg : g γ with
    | nx γ1 => rw [hg] at q; exact fun B' σ' H' s I' => q B' σ' H' s ⟨I'.s, I'.e, I'.len, I'.x, I'.v⟩
    | rt d => rw [hg] at q; exact q
    | bk γ1 => rw [hg] at q; exact fun B' σ' H' s I' => q B' σ' H' s ⟨I'.s, I'.e, I'.len, I'.x, I'.v⟩
    | ct γ1 => rw [hg] at q; exact fun B' σ' H' s I' => q B' σ' H' s ⟨I'.s, I'.e, I'.len, I'.x, I'.v⟩
    | no => rw [hg] at q; exact q
    | er c fs γ1 =>
      rw [hg] at q
      dsimp only at q
      split at q
      · rename_i he
        exact fun C dd B' σ' H' fs' s I' h1 h2 h3 => hh.wish hx he s ⟨I'.s, I'.e, I'.len, I'.x, I'.v⟩ h1 h2 h3 q
      · exact False.elim q
/-- e.f in a suite -/
theorem fr_lookup {G : Gd} {B : Hp} {n : Str} {d : D} : ∀ {fs' : List (Str × V)} {fs : List (Str × D)}, FR G B fs' fs → fs.lookup n = some d → ∃ v, fs'.lookup n = some v ∧ Dn G.K B v d
  | _, _, .nil, h => by cases h
  | (k, v) :: r, (k', d') :: r', .cons a t, h => by
    obtain ⟨rfl, a2⟩ := (show k = k' ∧ Dn G.K B v d' from a)
    rw [List.lookup_cons] at h ⊢
    cases hk : (n == k) with
    | true => rw [hk] at h; cases h; exact ⟨v, rfl, a2⟩
    | false => rw [hk] at h; exact fr_lookup t h
theorem d_fld {X : Cx} {a C : Addr} {oe : Obj} {cls : Value} {d : Option Addr} {pn : List (Addr × Obj)} {x n : Str} {p p' : Pos} {i : Nat} {dd : Addr} {fs' : List (Str × V)} {fs : List (Str × D)} {B H : Hp} (T : XfC X.K C) (hno : PySem.W.findIn X.K (.ref C) n = some none) (hz : Zc cls d oe) (hf : ∃ vs, oe.data = .fields vs) (hd : d = some dd) (hcl : cls = .ref C) (hfr : FR G B fs' fs)
    (hi : X.N[i]? = some x := by rfl) (hv : Vis X.env.scope x := by first | exact Or.inl rfl | exact Or.inr (Or.inl rfl) | exact Or.inr (Or.inr rfl)) (hdb : (x == ("__debug__" : Str)) = false := by decide) (hcd : (x == ("__classdict__" : Str)) = false := by decide)
    (hb : attributeBase (.Name x p) n X.env (eval (.Name x p) X.env) = eval (.Name x p) X.env := by rfl) :
    PE (X.suite a ((a, oe) :: pn)) (.Attribute (.Name x p) n p') (cV (G.sui (some i) a dd fs' B H) ow 0 fun _ => oR (fs.lookup n)) :=
  (pe_xf T hno hz hf (pe_var (X := X.suite a ((a, oe) :: pn)) hi hv hdb hcd) hb).impD fun σ H' Q ⟨B', γ, I, q⟩ => by
    obtain ⟨z, ez, q⟩ := q.oR
    obtain ⟨x1, x2⟩ := I.x _ rfl
    obtain ⟨v, e1, e2⟩ := fr_lookup hfr ez
    exact ⟨.ref a, x1, rfl, hcl, dd, fs', v, hd, x2, e1, q v B' H' (.refl I.s) (Dn.mono I.e.b e2)⟩
end
end DL
set_option Elab.async false
set_option linter.all false
set_option maxRecDepth 100000
set_option maxHeartbeats 4000000
/-! The data layer: short words for what the rules make; the end of a law. -/
namespace DL
open PySem PySem.Spec PyProof.Rows L2

@[simp] abbrev eV (i : Nat) : Env → Rs D := fun γ => gE γ i
@[simp] abbrev eC (d : D) : Env → Rs D := fun _ => .ok d
@[simp] abbrev eL (f : Env → Rs (List D)) : Env → Rs D := fun γ => (f γ).map PyData.list
@[simp] abbrev eT (f : Env → Rs (List D)) : Env → Rs D := fun γ => (f γ).bind fun ds => oR (szT ds)
@[simp] abbrev nL (f : Env → Rs (List D)) : Env → Rs (List D) := fun γ => (f γ).bind fun ds => oR (szL ds)
@[simp] abbrev aN : Env → Rs (List D) := fun _ => .ok []
@[simp] abbrev aC (f : Env → Rs D) (fs : Env → Rs (List D)) : Env → Rs (List D) := fun γ => (f γ).bind fun d => (fs γ).map fun ds => d :: ds
@[simp] abbrev cB {α : Type} (fs : Env → Rs (List D)) (F : List D → Option α) : Env → Rs α := fun γ => (fs γ).bind fun ds => oR (F ds)
@[simp] abbrev cF (n : Nat) (fs : Env → Rs (List D)) (F : List D → Rs D) : Env → Rs D := fun γ => (fs γ).bind fun ds => nArgs n F ds
@[simp] abbrev oN : Env → Rs (Option Int) := fun _ => .ok none
@[simp] abbrev oS (f : Env → Rs D) : Env → Rs (Option Int) := fun γ => (f γ).bind fun d => oR (intO d)
@[simp] abbrev nCut (f : Env → Rs D) (l h : Env → Rs (Option Int)) : Env → Rs (List D) := fun γ => (f γ).bind fun d => (l γ).bind fun l => (h γ).bind fun h => oR (cutLD l h d)
@[simp] abbrev nRep (f : Env → Rs (List D)) (g : Env → Rs D) : Env → Rs (List D) := fun γ => (f γ).bind fun ds => (g γ).bind fun e => oR (repD ds e)
@[simp] abbrev eAnd (f g : Env → Rs D) : Env → Rs D := fun γ => andVR (f γ) (g γ)
@[simp] abbrev eOr (f g : Env → Rs D) : Env → Rs D := fun γ => orVR (f γ) (g γ)
@[simp] abbrev tAnd' (f g : Env → Rs Bool) : Env → Rs Bool := fun γ => andR (f γ) (g γ)
@[simp] abbrev tOr' (f g : Env → Rs Bool) : Env → Rs Bool := fun γ => orR (f γ) (g γ)
@[simp] abbrev tNot' (f : Env → Rs Bool) : Env → Rs Bool := fun γ => (f γ).map not
@[simp] abbrev eIf {α : Type} (t : Env → Rs Bool) (f g : Env → Rs α) : Env → Rs α := fun γ => (t γ).bind fun z => if z = true then f γ else g γ
@[simp] abbrev eCh (F F' : D → D → Option D) (f g h : Env → Rs D) : Env → Rs D := fun γ => (f γ).bind fun d => (g γ).bind fun e => chainD F F' d e (h γ)
@[simp] abbrev nLc (vs : List Nat) (fi : Env → Rs (List D)) (t : D → Env → Option Env) (c : Env → Rs Bool) (f : Env → Rs D) : Env → Rs (List D) := fun γ => (fi γ).bind fun ds => compR vs t c f ds γ
@[simp] abbrev eIdx (f : Env → Rs D) (fs : Env → Rs (List D)) : Env → Rs D := fun γ => (f γ).bind fun d => (oR (plO d)).bind fun _ => (fs γ).bind fun ds => oR (idxD d ds)
@[simp] abbrev sNx : Env → Out := fun γ => .nx γ
@[simp] abbrev sBk : Env → Out := fun γ => .bk γ
@[simp] abbrev sCt : Env → Out := fun γ => .ct γ
@[simp] abbrev sSet (i : Nat) (f : Env → Rs D) : Env → Out := fun γ => liftS (f γ) γ fun d => .nx (γ.set i (some d))
@[simp] abbrev sNew (i : Nat) (f : Env → Rs (List D)) : Env → Out := fun γ => liftS (f γ) γ fun ds => .nx (γ.set i (some (.list ds)))
@[simp] abbrev sAug (i : Nat) (f : Env → Rs D) (F : D → D → Option D) : Env → Out := fun γ => liftS ((gE γ i).bind fun d => (f γ).bind fun z => oR (F d z)) γ fun d => .nx (γ.set i (some d))
@[simp] abbrev sRet (f : Env → Rs D) : Env → Out := fun γ => liftS (f γ) γ .rt
@[simp] abbrev sRetN : Env → Out := fun _ => .rt .none
@[simp] abbrev sEx (f : Env → Rs D) : Env → Out := fun γ => liftS (f γ) γ fun _ => .nx γ
@[simp] abbrev sFor (fi : Env → Rs (List D)) (t : D → Env → Option Env) (b : Env → Out) : Env → Out := fun γ => liftS (fi γ) γ fun ds => forS t b ds γ
@[simp] abbrev sWh (t : Env → Rs Bool) (b : Env → Out) : Env → Out := fun γ => whileS t b FUEL γ
@[simp] abbrev sRa (c : Str) (flds : List Str) (lab : Str) (fs : Env → Rs (List D)) : Env → Out := fun γ => liftS (fs γ) γ fun ds => if ds.length = flds.length then .er c (flD flds lab ds) γ else .no
@[simp] abbrev sRa0 (c lab : Str) : Env → Out := fun γ => .er c (flD [] lab []) γ

/-! a slice of anything -/
def cutAD (lo hi : Option Int) : D → Option D
  | .list ds => some (.list (cutD ds lo hi))
  | .dict [(.none, .list ds)] => some (.list (cutD ds lo hi))
  | .tuple ds => if ¬ (HT.sIx ds.length 0 lo = 0 ∧ HT.sIx ds.length ds.length hi = ds.length) then some (.tuple (cutD ds lo hi)) else none
  | .str z => if z.length ≤ LIM then some (.str (cutS z lo hi)) else none
  | _ => none
@[simp] abbrev eCut (f : Env → Rs D) (l h : Env → Rs (Option Int)) : Env → Rs D := fun γ => (f γ).bind fun d => (l γ).bind fun l => (h γ).bind fun h => oR (cutAD l h d)
section
variable {X : Cx} {a e : Expr} {pos : Pos} {G : Gd} {ow owL : List Nat} {f : Env → Rs D}
theorem d_cut {lo hi : Option Expr} {fl fh : Env → Rs (Option Int)} {p2 : Pos} (ha : PE X a (cV G ow 1 f)) (hl : PO X lo (cO G ow fl)) (hh : PO X hi (cO G ow fh)) (hK : X.K = G.K := by rfl) :
    PE X (.Subscript a (.Slice lo hi none p2) pos) (cV G ow 0 (eCut f fl fh)) :=
  (pe_slice (SlR.or (hK ▸ sl_list) (SlR.or (hK ▸ sl_tup) sl_str)) ha hl hh).impD fun σ H Q ⟨B, γ, I, q⟩ => ⟨B, γ, I, q.bind.imp fun d q1 v B1 H1 x1 hv => ⟨B1, γ, I.mono x1, q1.bind.mono x1 fun l q2 B2 H2 x2 => ⟨B2, γ, I.mono (x1.trans x2), q2.bind.mono (x1.trans x2) fun u q3 B3 H3 x3 => by
    obtain ⟨z, ez, q⟩ := q3.oR
    have x23 := x2.trans x3
    unfold cutAD at ez
    split at ez
    · rename_i ds
      cases ez
      obtain ⟨p, us, rfl, h1, h2⟩ := (hv.mono x23).items x23.s
      exact .inl ⟨p, us, rfl, .inl h1, fun r hr => q (.ref r) _ _ ((x1.trans x23).trans (.new x23.s hr)) (.lst (.inl upd_same) ((cut_all (.of_paired h2) l u).mono (same_new (same_none x23.s hr))))⟩
    · rename_i ds
      cases ez
      obtain ⟨p, us, rfl, _, h1, h2⟩ := DnF.rol x23.s (hv.mono x23)
      exact .inl ⟨p, us, rfl, h1, fun r hr => q (.ref r) _ _ ((x1.trans x23).trans (.new x23.s hr)) (.lst (.inl upd_same) ((cut_all h2 l u).mono (same_new (same_none x23.s hr))))⟩
    · rename_i ds
      split at ez
      · rename_i hc
        cases ez
        obtain ⟨p, us, rfl, h1, h2⟩ := (hv.mono x23).tups x23.s
        exact .inr (.inl ⟨p, us, rfl, h1, by rw [h2.length]; exact hc, fun r hr => q (.ref r) _ _ ((x1.trans x23).trans (.new x23.s hr)) (.tup upd_same ((cut_all h2 l u).mono (same_new (same_none x23.s hr))))⟩)
      · cases ez
    · rename_i t
      split at ez
      · rename_i hc
        cases ez
        exact .inr (.inr ⟨t, (hv.mono x23).str, lim_le hc, q _ B3 H3 (x1.trans x23) (Dn.str _)⟩)
      · cases ez
    · cases ez⟩⟩⟩
/-! a, b = x, y -/
@[simp] abbrev sPar (i j : Nat) (fs : Env → Rs (List D)) : Env → Out := fun γ => liftS (fs γ) γ fun ds => match ds with
  | [d, e] => .nx ((γ.set i (some d)).set j (some e))
  | _ => .no
theorem s_par {ow' : List Nat} {x y : Str} {b : Expr} {px py pt pt2 : Pos} {kt k2 : Nat} {fs : Env → Rs (List D)} (i j : Nat) (hij : i ≠ j) (ha : PA X [a, b] (cA G ow 0 fs)) (hN : X.N.Nodup) (hw : (ow.set i 0).set j 0 = ow' := by rfl) (hi : X.N[i]? = some x := by rfl) (hj : X.N[j]? = some y := by rfl)
    (hx : X.env.scope.names.lookup x = some .local := by rfl) (hy : X.env.scope.names.lookup y = some .local := by rfl) (hg : G.x = none := by rfl) (hc : X.calm = true := by rfl)
    (hsw : swappedStores [.Tuple [.Name x px, .Name y py] kt pt] (.Tuple [a, b] k2 pt2) X.env = pure (some [x, y]) := by rfl)
    (hs : swapsWithSole [.Tuple [.Name x px, .Name y py] kt pt] (.Tuple [a, b] k2 pt2) pos.line X.env = pure false := by rfl) :
    PS X (.Assign [.Tuple [.Name x px, .Name y py] kt pt] (.Tuple [a, b] k2 pt2) pos) (cS G ow ow' owL (sPar i j fs)) :=
  (ps_par hc hN hi hj hij hx hy ha hsw hs).impD fun J σ H ⟨B, γ, I, q⟩ => ⟨B, γ, I, (OutP.lift I q).imp fun ds q vs B1 H1 x1 hvs => by
    split at q
    · rename_i d e
      cases hvs with
      | cons h t =>
        cases t with
        | cons h' t' =>
          cases t'
          refine ⟨_, _, rfl, q B1 _ H1 x1.b ?_⟩
          rw [← hw]
          exact ((I.mono x1).set i hg h).set j hg h'
    · exact False.elim q⟩
/-! a, b, .. = a tuple -/
@[simp] abbrev sUnp (t : D → Env → Option Env) (f : Env → Rs D) : Env → Out := fun γ => liftS (f γ) γ fun d => match t d γ with
  | some γ1 => .nx γ1
  | none => .no
theorem s_unp {tg : Expr} {vs : List Nat} {t : D → Env → Option Env} (he : PE X e (cV G ow 0 f)) (hg : PG X tg (cG G ow vs t)) (hs : swapsWithSole [tg] e pos.line X.env = pure false := by rfl) (hw : swappedStores [tg] e X.env = pure none := by rfl)
    (h1 : (assignEach [tg] X.env).map (·.2) = [assign tg X.env] := by rfl) : PS X (.Assign [tg] e pos) (cS G ow ow owL (sUnp t f)) :=
  (ps_asg he hg hs hw h1).impD fun J σ H ⟨B, γ, I, q⟩ => ⟨B, γ, I, (OutP.lift I q).imp fun d q v B1 H1 x1 hv => by
    split at q
    · rename_i γ1 ht
      exact ⟨B1, γ, d, γ1, I.mono x1, hv, ht, fun σ' _ I' => q B1 σ' H1 x1.b I'⟩
    · exact False.elim q⟩
end

/-! ### what the written part says of the errors -/
structure ErrTx (K : PySem.W.Frag) (mg : Str → Option Value) (P : Program) (c : Str) (ps flds : List Str) (C fI : Addr) (fd : FuncData) : Prop where
  oex : OexC K C
  iC : PySem.W.findIn K (.ref C) "__init__" = some (some (.ref fI))
  tI : PySem.W.typeIn K (.ref fI) = some (.type "function")
  m : mg c = some (.ref C)
  b : Binds K fd ps []
  ok : ∀ (w : World) (base : Heap), FnOk P w K mg base (L2.CX P w) 1 fI fd ps (spE C c flds)
  xf : XfC K C
  nf : ∀ f ∈ flds, PySem.W.findIn K (.ref C) f = some none
theorem free_of {sc : Scope} (h : (sc.names.all fun p => p.2 != .free || p.1 == ("__class__" : Str)) = true) : ∀ y, sc.names.lookup y = some .free → y = "__class__" := fun y e => by
  have := List.all_eq_true.mp h _ (PySem.mem_of_lookup e)
  simpa using this
theorem oex_cls {K : PySem.W.Frag} {C : Addr} (T : OexC K C) : ∃ cd, PySem.W.clsIn K C = some cd := by
  obtain ⟨nm, q, N, bs, bm, sn, sub, ab, col, dd, k0, k1, k2, k3, k5, hC, _⟩ := T.cls
  exact ⟨_, by unfold PySem.W.clsIn; rw [hC]⟩
def ExmAll (K : PySem.W.Frag) (mg : Str → Option Value) (h : Str) (cv : Value) (es : List Str) : Prop := ∀ e ∈ es, ∀ C, mg e = some (.ref C) → PySem.W.exmOne K (.ref C) cv = some (isSub e h)
theorem exm_nil {K : PySem.W.Frag} {mg : Str → Option Value} {h : Str} {cv : Value} : ExmAll K mg h cv [] := fun _ z => nomatch z
theorem exm_cons {K : PySem.W.Frag} {mg : Str → Option Value} {h e : Str} {cv : Value} {C : Addr} {b : Bool} {es : List Str} (hm : mg e = some (.ref C)) (hx : PySem.W.exmOne K (.ref C) cv = some b) (r : ExmAll K mg h cv es) (hb : b = isSub e h := by decide) : ExmAll K mg h cv (e :: es) := fun e' he C' hC' => by
  rcases List.mem_cons.mp he with z | z
  · subst z
    rw [hm] at hC'
    cases hC'
    rw [hx, hb]
  · exact r e' z C' hC'
/-! ### the law -/
def spL (K : PySem.W.Frag) : Sp := fun vs H Q _ => ∃ (a : Addr) (ns : List Int), vs = [.ref a] ∧ ns.length ≤ 63 ∧ SqL K H a (ns.map V.int) ∧ ∀ H', Q (.bl true) H'
theorem law_imp {K : PySem.W.Frag} {mg : Str → Option Value} {F : List D → Rs D} (h : ∀ ns : List Int, ns.length ≤ 63 → F [rolD (ns.map PyData.int)] = .ok (.bool true)) : ∀ vs H Q E, spL K vs H Q E → spD K mg 1 F vs H Q E := fun vs H Q E s => by
  obtain ⟨a, ns, rfl, hl, hS, q⟩ := s
  refine ⟨rfl, H, [rolD (ns.map PyData.int)], .refl _, .cons (.rol hS (DnAll.of_ints ns)) .nil, ?_⟩
  rw [h ns hl]
  intro v B' H' x hv
  cases hv
  exact q H'
theorem cx_no {P : Program} {w : World} (H : Hp) (s : Shared) (e : Value) (s' : Shared) : L2.CX P w [] H s (fun _ _ _ => False) e s' → False := fun ⟨_, _, _, _, _, _, _, _, _, _, _, _, z⟩ => z
end DL
set_option Elab.async false
set_option linter.all false
set_option maxRecDepth 100000
set_option maxHeartbeats 4000000
/-! The data layer: constants of the module, op=, isinstance. -/
namespace DL
open PySem PySem.Spec PyProof.Rows L2
section
variable {X : Cx} {e : Expr} {x : Str} {p pos tpos p2 : Pos} {G : Gd} {ow : List Nat} {f : Env → Rs D}
theorem d_gint {i : Int} (h : ∃ u, X.mg x = some u ∧ RelV (.int i) u) (hg : Gl X x := by rfl) (hd : (x == ("__debug__" : Str)) = false := by decide) : PE X (.Name x pos) (cV G ow 0 (eC (.int i))) := d_c (C8.pe_gc hg h hd) fun _ => .int _
/-! op= -/
theorem hr_subA {K : PySem.W.Frag} : HR K (rI0 fun i j => .int (i - j)) subD := hr_I0 fun _ _ _ => .int _
def addA (d e : D) : Option D := match d, e with
  | .int i, .int j => some (.int (i + j))
  | .str x, .str y => if x.length + y.length ≤ LIM then some (.str (x ++ y)) else none
  | _, _ => none
theorem addA_or {d e z : D} (h : addA d e = some z) : addI d e = some z ∨ addS d e = some z := by
  unfold addA at h
  split at h
  · exact .inl h
  · exact .inr h
  · cases h
abbrev rAddA : R2 := fun x y H Q => (rI0 fun i j => .int (i + j)) x y H Q ∨ (∃ i j, x = .str i ∧ y = .str j ∧ i.length + j.length ≤ sizeLine ∧ Q (.str (i ++ j)) H)
theorem hr_addA {K : PySem.W.Frag} : HR K rAddA addA := (HP.or (hr_I0 (F := fun i j => .int (i + j)) fun _ _ _ => .int _) hr_addS).impP fun _ _ _ h => addA_or h
theorem iop_addA : OpR X (inplaceOp .Add) rAddA := OpR.or iop_add iop_add_str
theorem hr_mulA {K : PySem.W.Frag} : HR K (rI CMul fun i j => .int (i * j)) mulD := hr_I (fun i j h => by
  have h := of_decide_eq_true h
  exact h) fun _ _ _ => .int _
theorem hr_fdivA {K : PySem.W.Frag} : HR K (rI CDivW fun i j => .int (i / j)) fdivD := hr_I (fun i j h => by
  have h := of_decide_eq_true h
  exact ⟨h.1, log2_64 h.1 h.2⟩) fun _ _ _ => .int _
theorem hr_modA {K : PySem.W.Frag} : HR K (rI (fun _ j => 0 < j) fun i j => .int (i % j)) modD := hr_I (fun i j h => of_decide_eq_true h) fun _ _ _ => .int _
/-! isinstance(x, T) -/
def isiN (T : String) : D → Option Bool
  | .none => kitB "NoneType" T
  | .bool _ => kitB "bool" T
  | .int _ => kitB "int" T
  | .str _ => kitB "str" T
  | .list _ => kitB "list" T
  | .tuple _ => kitB "tuple" T
  | .dict [(.none, .list _)] => none
  | .dict [(.bool true, .dict _)] => none
  | .dict [(.bool false, .tuple _)] => none
  | .dict [(.bool false, .int _)] => none
  | .dict _ => kitB "dict" T
def isiD (T : String) (d : D) : Option D := (isiN T d).map PyData.bool
def tyName : D → String
  | .none => "NoneType"
  | .bool _ => "bool"
  | .int _ => "int"
  | .str _ => "str"
  | .list _ => "list"
  | .tuple _ => "tuple"
  | _ => "dict"
theorem rd_ty {K : PySem.W.Frag} {H : Hp} {a : Addr} {xs : List V} (h : Rd H a (.lst xs)) : TyX K H (.ref a) (.type "list") := by
  rcases h with h | ⟨o, h⟩
  · exact .base (.lst h)
  · exact .base (.frz h)
theorem sq_ty {K : PySem.W.Frag} {H : Hp} {a : Addr} {xs : List V} (h : SqT K H a xs) : TyX K H (.ref a) (.type "tuple") := by
  rcases h with h | ⟨cs, us, n, h1, h2, _⟩
  · rcases h with h | ⟨o, h⟩
    · exact .base (.tup h)
    · exact .fTuple h
  · exact .kTuple h1 h2
theorem dn_ty {K : PySem.W.Frag} {B H : Hp} {v : V} {d : D} {T : String} {b : Bool} (s : Same B H) (h : DnF K B H 1 v d) (hi : isiN T d = some b) : ∃ n, TyX K H v (.type n) ∧ kitB n T = some b := by
  have h' := h.flu s
  cases h' with
  | non => exact ⟨_, .base .non, hi⟩
  | bl x => exact ⟨_, .base (.bl x), hi⟩
  | int x => exact ⟨_, .base (.int x), hi⟩
  | str x => exact ⟨_, .base (.str x), hi⟩
  | lst h1 h2 => exact ⟨_, rd_ty h1, hi⟩
  | tup h1 h2 => exact ⟨_, sq_ty (.inl (.inl h1)), hi⟩
  | dic h1 h2 =>
    refine ⟨_, .base (.dK h1), ?_⟩
    cases h2 with
    | nil => exact hi
    | cons h3 h4 =>
      rename_i k v kvs d es
      cases k with
      | inl i => exact hi
      | inr i => exact hi
  | dct h1 h2 =>
    refine ⟨_, .base (.dT h1), ?_⟩
    cases h2 with
    | nil => exact hi
    | cons h3 h4 => exact hi
  | lkk h1 h2 => cases hi
  | lkt h1 h2 => cases hi
  | rng h1 => cases hi
  | adr => cases hi
  | rol h1 h2 => cases hi
theorem d_isi (T : String) (hm : X.mg "isinstance" = none) (hmt : X.mg x = none) (hv : bootBuiltins x = some (.type T)) (ha : PE X e (cV G ow 1 f)) (hg : Gl X "isinstance" := by rfl) (hgt : Gl X x := by rfl) (hn : x ≠ "__name__" := by decide) (hdb : (x == ("__debug__" : Str)) = false := by decide)
    (he : starEach [e, .Name x p2] X.env = (false, eval e X.env) :: starEach [.Name x p2] X.env := by rfl) (hpl : (backTo pos (starEach [.Name x p2] X.env)).any (·.1) = false := by rfl) (he2 : starEach [.Name x p2] X.env = [(false, eval (.Name x p2) X.env)] := by rfl) (hK : X.K = G.K := by rfl) :
    PE X (.Call (.Name "isinstance" p) [e, .Name x p2] [] pos) (cV G ow 0 (b1 f (isiD T))) :=
  (pe_callB call_isi hg hm rfl (pa_cons ha (pa_cons (pe_bltn (v := .ty T) hgt hmt hv rfl hn hdb) pa_nil he2) he) (by decide) (by decide) he hpl).impD fun σ H Q ⟨B, γ, I, q⟩ => by
    refine ⟨B, γ, I, q.bind.imp fun d q v B1 H1 x1 hv => ?_⟩
    obtain ⟨z, ez, q⟩ := q.oR
    obtain ⟨b, e1, e2⟩ := Option.map_eq_some_iff.mp ez
    subst e2
    obtain ⟨n, t1, t2⟩ := dn_ty x1.s hv e1
    exact ⟨v, .ty T, .type n, .type T, b, rfl, .ty T, hK ▸ t1, kit_ty t2, q (.bl b) B1 H1 x1 (.bl b)⟩
end
/-! a comparison as a test -/
section
variable {X : Cx} {a b : Expr} {pos : Pos} {G : Gd} {ow : List Nat} {f g : Env → Rs D}
theorem t_cmp {op : CmpOp} {r : R2} {F : D → D → Option D} (hr : HR G.K r F) (ho : OpR X (compareOp op) r) (hm : behindInMarks op b = false) (ha : PE X a (cV G ow 1 f)) (hb : PE X b (cV G ow 1 g)) : PT X (.Compare a [op] [b] pos) (cT G ow (b1 (b2 f g F) boolO)) :=
  (pt_cmpR ho ha hb hm).impD fun σ H Q ⟨B, γ, I, q⟩ => ⟨B, γ, I, q.bind.bind.imp fun d q v B1 H1 x1 hv => ⟨B1, γ, I.mono x1, q.bind.mono x1 fun e q u B2 H2 x2 hu => by
    obtain ⟨z, ez, q⟩ := q.oR
    obtain ⟨k, ek, q⟩ := q.oR
    refine hr.run x2.s (hv.mono x2) hu ez fun w B3 H3 x3 hw => ?_
    unfold boolO at ek
    split at ek
    · cases ek
      cases hw
      exact ⟨_, rfl, q B3 H3 ((x1.trans x2).trans x3)⟩
    · cases ek⟩⟩
theorem t_lt (ha : PE X a (cV G ow 1 f)) (hb : PE X b (cV G ow 1 g)) : PT X (.Compare a [.Lt] [b] pos) (cT G ow (b1 (b2 f g ltD) boolO)) := t_cmp (hr_I0 fun _ _ _ => .bl _) op_lt (nomark _) ha hb
theorem t_le (ha : PE X a (cV G ow 1 f)) (hb : PE X b (cV G ow 1 g)) : PT X (.Compare a [.LtE] [b] pos) (cT G ow (b1 (b2 f g leD) boolO)) := t_cmp (hr_I0 fun _ _ _ => .bl _) op_le (nomark _) ha hb
theorem t_gt (ha : PE X a (cV G ow 1 f)) (hb : PE X b (cV G ow 1 g)) : PT X (.Compare a [.Gt] [b] pos) (cT G ow (b1 (b2 f g gtD) boolO)) := t_cmp (hr_I0 fun _ _ _ => .bl _) op_gt (nomark _) ha hb
theorem t_ge (ha : PE X a (cV G ow 1 f)) (hb : PE X b (cV G ow 1 g)) : PT X (.Compare a [.GtE] [b] pos) (cT G ow (b1 (b2 f g geD) boolO)) := t_cmp (hr_I0 fun _ _ _ => .bl _) op_ge (nomark _) ha hb
theorem t_eq {n : Nat} (hr : Room n X.A) (ha : PE X a (cV G ow 1 f)) (hb : PE X b (cV G ow 1 g)) (hK : X.K = G.K := by rfl) : PT X (.Compare a [.Eq] [b] pos) (cT G ow (b1 (b2 f g eqD) boolO)) := t_cmp hr_eq (hK ▸ op_eqD hr.units) (nomark _) ha hb
theorem t_ne {n : Nat} (hr : Room n X.A) (ha : PE X a (cV G ow 1 f)) (hb : PE X b (cV G ow 1 g)) (hK : X.K = G.K := by rfl) : PT X (.Compare a [.NotEq] [b] pos) (cT G ow (b1 (b2 f g neD) boolO)) := t_cmp hr_ne (hK ▸ op_neD hr.units) (nomark _) ha hb
theorem t_in {n : Nat} (hr : Room n X.A) (ha : PE X a (cV G ow 1 f)) (hb : PE X b (cV G ow 1 g)) (hm : behindInMarks .In b = false := by rfl) (hK : X.K = G.K := by rfl) : PT X (.Compare a [.In] [b] pos) (cT G ow (b1 (b2 f g (inD false)) boolO)) :=
  t_cmp (r := rIn2 G.K false) hr_in (hK ▸ OpR.or op_in_seq (op_inD (by have := hr.un; omega))) hm ha hb
theorem t_notin {n : Nat} (hr : Room n X.A) (ha : PE X a (cV G ow 1 f)) (hb : PE X b (cV G ow 1 g)) (hm : behindInMarks .NotIn b = false := by rfl) (hK : X.K = G.K := by rfl) : PT X (.Compare a [.NotIn] [b] pos) (cT G ow (b1 (b2 f g (inD true)) boolO)) :=
  t_cmp (r := rIn2 G.K true) hr_in (hK ▸ OpR.or op_notIn_seq (op_notInD (by have := hr.un; omega))) hm ha hb
end
end DL
set_option Elab.async false
set_option linter.all false
set_option maxRecDepth 100000
set_option maxHeartbeats 4000000
/-! The data layer: own lists of own lists. -/
namespace DL
open PySem PySem.Spec PyProof.Rows L2

theorem paired_get {α β : Type} {F : α → β → Prop} : ∀ {xs : List α} {ys : List β} {i : Nat} {y : β}, Paired F xs ys → ys[i]? = some y → ∃ x, xs[i]? = some x ∧ F x y
  | _, _, _, _, .nil, e => by simp at e
  | _, _, 0, _, .cons a _, e => by simp at e; subst e; exact ⟨_, rfl, a⟩
  | _, _, i + 1, _, .cons _ t, e => by
    obtain ⟨x, h1, h2⟩ := paired_get (i := i) t (by simpa using e)
    exact ⟨x, by simpa using h1, h2⟩
theorem paired_set {α β : Type} {F F' : α → β → Prop} : ∀ {xs : List α} {ys : List β} (i : Nat) {x : α} {y : β}, Paired F xs ys → xs[i]? = some x → (∀ (j : Nat) a b, j ≠ i → xs[j]? = some a → F a b → F' a b) → F' x y → Paired F' xs (ys.set i y)
  | _, _, _, _, _, .nil, e, _, _ => by simp at e
  | _, _, 0, _, _, .cons a t, e, h, hx => by
    simp at e
    subst e
    exact .cons hx (paired_rest t fun j a b => h (j + 1) a b (by omega))
  | _, _, i + 1, _, _, .cons a t, e, h, hx => .cons (h 0 _ _ (by omega) rfl a) (paired_set i t (by simpa using e) (fun j a b hj ha => h (j + 1) a b (by omega) (by simpa using ha)) hx)
where paired_rest {α β : Type} {F F' : α → β → Prop} : ∀ {xs : List α} {ys : List β}, Paired F xs ys → (∀ (j : Nat) a b, xs[j]? = some a → F a b → F' a b) → Paired F' xs ys
  | _, _, .nil, _ => .nil
  | _, _, .cons a t, h => .cons (h 0 _ _ rfl a) (paired_rest t fun j a b ha => h (j + 1) a b (by simpa using ha))
theorem paired_mem {α β : Type} {F F' : α → β → Prop} : ∀ {xs : List α} {ys : List β}, Paired F xs ys → (∀ a b, a ∈ xs → F a b → F' a b) → Paired F' xs ys
  | _, _, .nil, _ => .nil
  | _, _, .cons a t, h => .cons (h _ _ List.mem_cons_self a) (paired_mem t fun a b z => h a b (List.mem_cons_of_mem _ z))
section
variable {G : Gd} {ow : List Nat} {B H B' H' : Hp} {σ : L2.St} {γ : Env}
/-- an own empty list is an own list of own lists -/
theorem EnvR.up2 (I : EnvR G ow B H σ γ) {i : Nat} (hk : ow.getD i 0 = 1) (hg : ∀ d, γ[i]? = some (some d) → d = .list []) : EnvR G (ow.set i 2) B H σ γ := by
  obtain ⟨own, h1, h2, h3⟩ := I.v
  have hi : i < ow.length := by
    by_cases z : i < ow.length
    · exact z
    · rw [List.getD_eq_getElem?_getD, List.getElem?_eq_none (by omega)] at hk; simp at hk
  refine ⟨I.s, I.e, I.len, I.x, own, h1, h2, fun j d q => ?_⟩
  obtain ⟨v, e, r⟩ := h3 j d q
  refine ⟨v, e, ?_⟩
  by_cases z : j = i
  · subst z
    rw [ow_set_self _ _ _ (.inl hi)]
    rw [hk] at r
    have := hg d q
    subst this
    obtain ⟨p, xs, ds, c1, c2, c3, c4, c5⟩ := r
    cases c2
    cases c5
    exact ⟨p, [], [], c1, rfl, c3, c4, .nil, by simp, .nil⟩
  · rw [ow_set_ne _ _ z]
    exact r
/-- one of its lists is written -/
theorem EnvR.wr2 (I : EnvR G ow B H σ γ) {i : Nat} {ds : List D} (hx : G.x = none) (hk : ow.getD i 0 = 2) (hg : γ[i]? = some (some (.list ds))) :
    ∃ (p : Addr) (qs : List Addr) (dss : List (List D)), ds = dss.map PyData.list ∧ σ[i]? = some (some (.ref p)) ∧ H p = some (.lst (qs.map V.ref)) ∧ qs.length = dss.length ∧
      ∀ (j : Nat) es, dss[j]? = some es → ∃ q ys, qs[j]? = some q ∧ H q = some (.lst ys) ∧ DnAll G.K B ys es ∧
        ∀ ys' es', DnAll G.K B ys' es' → EnvR G ow B (upd H q (.lst ys')) σ (γ.set i (some (.list ((dss.set j es').map PyData.list)))) := by
  obtain ⟨own, h1, h2, h3⟩ := I.v
  obtain ⟨v, e, r⟩ := h3 i _ hg
  rw [hk] at r
  obtain ⟨p, qs, dss, rfl, q2, q3, q4, q5, q6, q7⟩ := r
  cases q2
  refine ⟨p, qs, dss, rfl, e, q4, paired_len q7, fun j es hj => ?_⟩
  obtain ⟨q, hq, oq, ys, hl, hd⟩ := paired_get q7 hj
  obtain ⟨b1, b2, b3⟩ := h1 i q oq
  refine ⟨q, ys, hq, hl, hd, fun ys' es' hy => ?_⟩
  have sB : Same B (upd H q (.lst ys')) := fun a u z => by
    have : a ≠ q := fun y => by subst y; rw [b1] at z; cases z
    rw [upd_ne this]; exact I.s a u z
  refine ⟨sB, ⟨I.e.b, fun a u z => ?_, sB, I.e.n⟩, by rw [List.length_set, I.len], (fun t z => by rw [hx] at z; cases z), own, fun k a hj => ?_, h2, fun k d q' => ?_⟩
  · have : a ≠ q := fun y => by subst y; rw [b2] at z; cases z
    rw [upd_ne this]; exact I.e.h a u z
  · obtain ⟨c1, c2, c3⟩ := h1 k a hj
    refine ⟨c1, c2, ?_⟩
    by_cases z : a = q
    · subst z; exact nt_lst upd_same
    · exact c3.upd z
  · by_cases z : k = i
    · subst z
      have hj' : k < γ.length := I.lt hg
      rw [List.getElem?_set_self hj'] at q'
      cases q'
      refine ⟨_, e, ?_⟩
      rw [hk]
      have hpq : p ≠ q := fun z => q6 (z ▸ List.mem_of_getElem? hq)
      refine ⟨p, qs, dss.set j es', rfl, rfl, q3, by rw [upd_ne hpq]; exact q4, q5, q6, paired_set j q7 hq (fun m a b hm ha ⟨z1, zs, z2, z3⟩ => ⟨z1, zs, ?_, z3⟩) ⟨oq, ys', upd_same, hy⟩⟩
      have : a ≠ q := fun y => by
        subst y
        exact hm (nd_ix q5 ha hq)
      rw [upd_ne this]; exact z2
    · rw [List.getElem?_set_ne (Ne.symm z)] at q'
      obtain ⟨w, e1, r⟩ := h3 k d q'
      exact ⟨w, e1, r.keepH fun a ha => upd_ne fun y => by subst y; exact z (h2 k i _ ha oq)⟩
/-- a new list joins its lists -/
theorem EnvR.app2 (I : EnvR G ow B H σ γ) {i : Nat} {ds : List D} (hx : G.x = none) (hk : ow.getD i 0 = 2) (hg : γ[i]? = some (some (.list ds))) {q : Addr} {xs : List V} {es : List D} (x : Ext B H B' H') (hq : H q = none) (hb : B' q = none) (hl : H' q = some (.lst xs)) (hd : DnAll G.K B' xs es) :
    ∃ p zs, σ[i]? = some (some (.ref p)) ∧ H' p = some (.lst zs) ∧ zs.length = ds.length ∧ EnvR G ow B' (upd H' p (.lst (zs ++ [.ref q]))) σ (γ.set i (some (.list (ds ++ [.list es])))) := by
  have I' := I.mono x
  obtain ⟨own, h1, h2, h3⟩ := I.v
  obtain ⟨v, e, r⟩ := h3 i _ hg
  rw [hk] at r
  obtain ⟨p, qs, dss, rfl, q2, q3, q4, q5, q6, q7⟩ := r
  cases q2
  obtain ⟨b1, b2, b3⟩ := h1 i p q3
  have hG : G.H q = none := by
    cases z : G.H q with
    | none => rfl
    | some o => rw [I.e.h q o z] at hq; cases hq
  have hpq : q ≠ p := fun z => by subst z; exact b3.ne hq
  have bp : B' p = none := x.n p b1 b3
  have sB : Same B' (upd H' p (.lst (qs.map V.ref ++ [.ref q]))) := fun a u z => by
    have : a ≠ p := fun y => by subst y; rw [bp] at z; cases z
    rw [upd_ne this]; exact x.s a u z
  have noq : ∀ j a, own j a → a ≠ q := fun j a ha y => by subst y; exact (h1 j a ha).2.2.ne hq
  have nq : ∀ a, H a ≠ none → H' a ≠ none := fun a z y => by
    cases w : H a with
    | none => exact z w
    | some o => rw [x.h a o w] at y; cases y
  refine ⟨p, qs.map V.ref, e, x.h _ _ q4, by rw [List.length_map, List.length_map]; exact paired_len q7, sB, ⟨I'.e.b, fun a u z => ?_, sB, I'.e.n⟩, by rw [List.length_set, I.len], (fun t z => by rw [hx] at z; cases z), fun j a => own j a ∨ (j = i ∧ a = q), fun k a hj => ?_, fun j k a hj hk' => ?_, fun k d q' => ?_⟩
  · have : a ≠ p := fun y => by subst y; rw [b2] at z; cases z
    rw [upd_ne this]; exact I'.e.h a u z
  · rcases hj with hj | ⟨_, rfl⟩
    · obtain ⟨c1, c2, c3⟩ := h1 k a hj
      refine ⟨x.n a c1 c3, c2, ?_⟩
      by_cases z : a = p
      · subst z; exact nt_lst upd_same
      · exact (c3.mono x.h).upd z
    · exact ⟨hb, hG, (nt_lst hl).upd hpq⟩
  · rcases hj with hj | ⟨z1, z2⟩
    · rcases hk' with hk' | ⟨y1, y2⟩
      · exact h2 j k a hj hk'
      · exact absurd y2 (noq j a hj)
    · rcases hk' with hk' | ⟨y1, y2⟩
      · exact absurd z2 (noq k a hk')
      · rw [z1, y1]
  · by_cases z : k = i
    · subst z
      have hj' : k < γ.length := I.lt hg
      rw [List.getElem?_set_self hj'] at q'
      cases q'
      refine ⟨_, e, ?_⟩
      rw [hk]
      have nqq : q ∉ qs := fun z => by
        obtain ⟨m, hm⟩ := List.getElem?_of_mem z
        obtain ⟨es', he'⟩ : ∃ es', dss[m]? = some es' := by
          have hml := (List.getElem?_eq_some_iff.mp hm).1
          rw [paired_len q7] at hml
          exact ⟨_, List.getElem?_eq_getElem hml⟩
        obtain ⟨q'', w1, w2, _⟩ := paired_get q7 he'
        rw [hm] at w1
        cases w1
        exact noq k q w2 rfl
      refine ⟨p, qs ++ [q], dss ++ [es], rfl, by simp, .inl q3, by rw [upd_same]; simp, ?_, ?_, paired_append (paired_mem q7 fun a b za ⟨z1, ys, z2, z3⟩ => ⟨.inl z1, ys, ?_, z3.mono x.b⟩) (.cons ⟨.inr ⟨rfl, rfl⟩, xs, by rw [upd_ne hpq]; exact hl, hd⟩ .nil)⟩
      · rw [List.nodup_append]
        refine ⟨q5, by simp, fun a ha b hb' e => ?_⟩
        rw [List.mem_singleton] at hb'
        subst hb'
        subst e
        exact nqq ha
      · rw [List.mem_append, List.mem_singleton]
        rintro (z | z)
        · exact q6 z
        · exact hpq z.symm
      · have : a ≠ p := fun y => by subst y; exact q6 za
        rw [upd_ne this]; exact x.h _ _ z2
    · rw [List.getElem?_set_ne (Ne.symm z)] at q'
      obtain ⟨w, e1, r⟩ := h3 k d q'
      refine ⟨w, e1, ((r.mono x).monoB (.refl _) fun a ha => .inl ha).keepH fun a ha => upd_ne fun y => ?_⟩
      subst y
      rcases ha with ha | ⟨y1, _⟩
      · exact z (h2 k i _ ha q3)
      · exact z y1
end

/-! ### rules -/
section
variable {X : Cx} {a b e : Expr} {pos : Pos} {G : Gd} {ow owL : List Nat} {f g fe : Env → Rs D}
def ixLD : D → D → Option D
  | .list ds, .int i => atI ds i
  | _, _ => none
/-- xs[i], xs an own list of own lists: looked at only -/
theorem d_ix2 (ha : PE X a (cV G ow 2 f)) (hb : PE X b (cV G ow 1 g)) (hs : PlainIx b := by intro _ _; rfl) (hK : X.K = G.K := by rfl) : PE X (.Subscript a b pos) (cV G ow 1 (b2 f g ixLD)) :=
  (pe_ix (hK ▸ ix_list) ha hb hs).impD fun σ H Q ⟨B, γ, I, q⟩ => ⟨B, γ, I, q.bind.imp fun d q v B1 H1 x1 hv => ⟨B1, γ, I.mono x1, q.bind.mono x1 fun e q u B2 H2 x2 hu => by
    obtain ⟨z, ez, q7⟩ := q.oR
    cases d with
    | list ds =>
      cases e with
      | int n =>
        obtain ⟨p, us, rfl, h1, h2⟩ := (hv.mono x2).items x2.s
        obtain ⟨w, e1, e2⟩ := atI_len h2 (show atI ds n = some z from ez)
        exact ⟨p, us, n, w, rfl, hu.int, .inl h1, e1, q7 w B2 H2 (x1.trans x2) e2⟩
      | _ => cases ez
    | _ => cases ez⟩⟩
def lenLD : List D → Option D
  | [.list ds] => some (.int (ds.length : Nat))
  | _ => none
theorem d_len2 {p : Pos} (hm : X.mg "len" = none) (ha : PE X e (cV G ow 2 f)) (hg : Gl X "len" := by rfl) (he : starEach [e] X.env = (false, eval e X.env) :: starEach [] X.env := by rfl) (hpl : (backTo pos (starEach [] X.env)).any (·.1) = false := by rfl) (hK : X.K = G.K := by rfl) :
    PE X (.Call (.Name "len" p) [e] [] pos) (cV G ow 0 (cB (aC f aN) lenLD)) :=
  (pe_callB call_len_seq hg hm PySem.boot_len (pa_cons ha pa_nil he) (by decide) (by decide) he hpl).impD fun σ H Q ⟨B, γ, I, q⟩ => ⟨B, γ, I, q.bind.bind.imp fun d q v B1 H1 x1 hv => by
    obtain ⟨z, ez, q⟩ := RsP.oR (show RsP G σ B H (oR (lenLD [d])) _ from q)
    unfold lenLD at ez
    split at ez
    · rename_i ds es hh
      cases hh
      cases ez
      obtain ⟨p, us, rfl, h1, h2⟩ := hv.items x1.s
      exact ⟨p, us, rfl, .inl (.inl h1), by rw [paired_len h2]; exact q _ B1 H1 x1 (Dn.int _)⟩
    · cases ez⟩
theorem cS_post {st : Stmt} {ow1 ow2 : List Nat} {F : Env → Out} (h : PS X st (cS G ow ow1 owL F)) (hi : ∀ γ γ', F γ = .nx γ' → ∀ B H σ, EnvR G ow1 B H σ γ' → EnvR G ow2 B H σ γ') : PS X st (cS G ow ow2 owL F) :=
  h.impD fun J σ H ⟨B, γ, I, q⟩ => ⟨B, γ, I, by
    cases hF : F γ with
    | nx γ' =>
      rw [hF] at q
      exact fun B' σ' H' s I' => q B' σ' H' s (hi γ γ' hF _ _ _ I')
    | rt d => rw [hF] at q; exact q
    | bk γ' => rw [hF] at q; exact q
    | ct γ' => rw [hF] at q; exact q
    | er c fs γ' => rw [hF] at q; exact q
    | no => rw [hF] at q; exact q⟩
/-- x = [], x an own list of own lists -/
theorem s_new2 {ow' : List Nat} {x : Str} {p' pl : Pos} (i : Nat) (hN : X.N.Nodup) (hw : ow.set i 2 = ow' := by rfl) (hlt : i < ow.length := by decide) (hi : X.N[i]? = some x := by rfl) (hx : Loc X.env.scope x := by first | exact .inl rfl | exact .inr rfl) (hg : G.x = none := by rfl)
    (hs : swapsWith (.List [] pl) (some (.Name x p')) pos.line X.env = pure false := by rfl) (hf : X.fn x = true ∨ X.env.scope.names.lookup x = some .local := by first | exact .inl rfl | exact .inr rfl | assumption) :
    PS X (.Assign [.Name x p'] (.List [] pl) pos) (cS G ow ow' owL (sNew i (nL aN))) :=
  cS_post (s_new (ow' := ow.set i 1) i (n_lst a_nil) hN rfl hlt hi hx hg hs hf) fun γ γ' h B H σ I => by
    have e : γ' = γ.set i (some (.list [])) := by
      have : Out.nx (γ.set i (some (.list []))) = Out.nx γ' := h
      exact (Out.nx.inj this).symm
    have := I.up2 (i := i) (ow_set_self _ _ _ (.inl hlt)) fun d hd => by
      rw [e] at hd
      by_cases z : i < γ.length
      · rw [List.getElem?_set_self z] at hd
        cases hd
        rfl
      · rw [List.getElem?_eq_none (by rw [List.length_set]; omega)] at hd
        cases hd
    rw [List.set_set, hw] at this
    exact this
/-- x.append(a new list), x an own list of own lists -/
theorem s_append2 {x : Str} {p1 p2 p3 : Pos} {fn : Env → Rs (List D)} (i : Nat) (he : PE X e (cN G ow fn)) (hk : ow.getD i 0 = 2 := by rfl) (hi : X.N[i]? = some x := by rfl) (hv : Vis X.env.scope x := by first | exact Or.inl rfl | exact Or.inr (Or.inl rfl) | exact Or.inr (Or.inr rfl)) (hg : G.x = none := by rfl)
    (hd : (x == ("__debug__" : Str)) = false := by decide) (hcd : (x == ("__classdict__" : Str)) = false := by decide)
    (hbase : attributeBase (.Name x p1) "append" X.env (eval (.Name x p1) X.env) = eval (.Name x p1) X.env := by rfl) (hst : starEach [e] X.env = (false, eval e X.env) :: starEach [] X.env := by rfl)
    (h1 : PE X (.Name x p1) (tVar i) → PA X [e] (tCons (cN G ow fn) tNil) → PE X (.Call (.Attribute (.Name x p1) "append" p2) [e] [] p3) (tBM X.K "list" rAppend (tVar i) (tCons (cN G ow fn) tNil)) := by
      exact fun h1 h2 => pe_bm PySem.F.plainAttrs_list PySem.F.slot_list_append PySem.F.type_list_append mt_append h1 h2)
    (hs : swapsWith (.Call (.Attribute (.Name x p1) "append" p2) [e] [] p3) none pos.line X.env = pure false := by rfl) :
    PS X (.Expr (.Call (.Attribute (.Name x p1) "append" p2) [e] [] p3) pos) (cS G ow ow owL (appS i (eL fn))) :=
  (ps_expr (h1 (pe_var hi hv hd hcd) (pa_cons he pa_nil hst)) hs).impD fun J σ H ⟨B, γ, I, q⟩ => by
    obtain ⟨ds, hgi, q⟩ := (OutP.lift I q).bind.lsE
    obtain ⟨p, qs, dss, e0, e1, e2, _⟩ := I.wr2 hg hk hgi
    refine ⟨.ref p, e1, .inl ⟨rfl, _, .inl (.inl e2)⟩, B, γ, I, q.bind.map.imp fun es q pn xs B1 H1 x1 hq hb hl hd => ?_⟩
    obtain ⟨z, ez, q⟩ := q.oR
    obtain ⟨p', zs, e1', e2', e3', wr⟩ := I.app2 hg hk hgi x1 hq hb hl hd
    rw [e1] at e1'
    cases e1'
    split at ez
    · rename_i hlt
      cases ez
      exact ⟨p, zs, .ref pn, rfl, rfl, e2', by rw [e3']; exact lim_lt hlt, q B1 σ _ x1.b wr⟩
    · cases ez
/-- where a list stands in a list -/
def ixJ (ds : List D) : D → Option (Nat × List D)
  | .int n => (ixN ds.length n).bind fun j => match ds[j]? with
    | some (.list es) => some (j, es)
    | _ => none
  | _ => none
theorem ixJ_some {ds : List D} {k : D} {j : Nat} {es : List D} (h : ixJ ds k = some (j, es)) : ∃ n, k = .int n ∧ ixN ds.length n = some j ∧ ds[j]? = some (.list es) := by
  unfold ixJ at h
  split at h
  · rename_i n
    cases hj : ixN ds.length n with
    | none => rw [hj] at h; cases h
    | some m =>
      rw [hj] at h
      change (match ds[m]? with | some (.list es) => some (m, es) | _ => none) = some (j, es) at h
      split at h
      · rename_i es' hm
        cases h
        exact ⟨n, rfl, hj, hm⟩
      · cases h
  · cases h
theorem map_list_get {dss : List (List D)} {j : Nat} {es : List D} (h : (dss.map PyData.list)[j]? = some (.list es)) : dss[j]? = some es := by
  rw [List.getElem?_map, Option.map_eq_some_iff] at h
  obtain ⟨z, e1, e2⟩ := h
  cases e2
  exact e1
/-- x[k].append(e) -/
def appInS (i : Nat) (fi fe : Env → Rs D) : Env → Out := fun γ => liftS ((lsE γ i).bind fun ds => (fi γ).bind fun k => (oR (ixJ ds k)).bind fun t => (fe γ).bind fun d => oR (if t.2.length < LIM then some (ds.set t.1 (.list (t.2 ++ [d]))) else none)) γ fun es => .nx (γ.set i (some (.list es)))
theorem s_app_in {x : Str} {ix : Expr} {p1 p2 p3 p4 : Pos} {fi : Env → Rs D} (i : Nat) (hix : PE X ix (cV G ow 1 fi)) (he : PE X e (cV G ow 0 fe)) (hk : ow.getD i 0 = 2 := by rfl) (hi : X.N[i]? = some x := by rfl) (hv : Vis X.env.scope x := by first | exact Or.inl rfl | exact Or.inr (Or.inl rfl) | exact Or.inr (Or.inr rfl)) (hg : G.x = none := by rfl)
    (hd : (x == ("__debug__" : Str)) = false := by decide) (hcd : (x == ("__classdict__" : Str)) = false := by decide) (hpl : PlainIx ix := by intro _ _; rfl)
    (hbase : attributeBase (.Subscript (.Name x p1) ix p4) "append" X.env (eval (.Subscript (.Name x p1) ix p4) X.env) = eval (.Subscript (.Name x p1) ix p4) X.env := by rfl) (hst : starEach [e] X.env = (false, eval e X.env) :: starEach [] X.env := by rfl)
    (h1 : PE X (.Subscript (.Name x p1) ix p4) (tOp (rIxL X.K) (tVar i) (cV G ow 1 fi)) → PA X [e] (tCons (cV G ow 0 fe) tNil) → PE X (.Call (.Attribute (.Subscript (.Name x p1) ix p4) "append" p2) [e] [] p3) (tBM X.K "list" rAppend (tOp (rIxL X.K) (tVar i) (cV G ow 1 fi)) (tCons (cV G ow 0 fe) tNil)) := by
      exact fun h1 h2 => pe_bm PySem.F.plainAttrs_list PySem.F.slot_list_append PySem.F.type_list_append mt_append h1 h2)
    (hs : swapsWith (.Call (.Attribute (.Subscript (.Name x p1) ix p4) "append" p2) [e] [] p3) none pos.line X.env = pure false := by rfl) :
    PS X (.Expr (.Call (.Attribute (.Subscript (.Name x p1) ix p4) "append" p2) [e] [] p3) pos) (cS G ow ow owL (appInS i fi fe)) :=
  (ps_expr (h1 (pe_ix ix_list (pe_var hi hv hd hcd) hix hpl) (pa_cons he pa_nil hst)) hs).impD fun J σ H ⟨B, γ, I, q⟩ => by
    obtain ⟨ds, hgi, q⟩ := (OutP.lift I q).bind.lsE
    obtain ⟨p, qs, dss, e0, e1, e2, _⟩ := I.wr2 hg hk hgi
    refine ⟨.ref p, e1, B, γ, I, q.bind.imp fun k q u B1 H1 x1 hu => ?_⟩
    obtain ⟨⟨j, es⟩, ej, q5⟩ := q.bind.oR
    obtain ⟨n, rfl, hj, hds⟩ := ixJ_some ej
    obtain ⟨p', qs', dss', e0', e1', e2', e3', wr⟩ := (I.mono x1).wr2 hg hk hgi
    rw [e1] at e1'
    cases e1'
    subst e0'
    rw [List.length_map] at hj
    obtain ⟨qa, ys, w1, w2, w3, _⟩ := wr j es (map_list_get hds)
    have hat : atI (qs'.map V.ref) n = some (.ref qa) := by
      unfold atI
      rw [List.length_map, e3', hj]
      simp [w1]
    refine ⟨p, _, n, .ref qa, rfl, hu.int, .inl (.inl e2'), hat, .inl ⟨rfl, ys, .inl (.inl w2)⟩, B1, γ, I.mono x1, q5.bind.mono x1 fun d q v B2 H2 x2 hv => ?_⟩
    obtain ⟨z, ez, q⟩ := q.oR
    obtain ⟨p'', qs'', dss'', f0, f1, f2, f3, wr2⟩ := (I.mono (x1.trans x2)).wr2 hg hk hgi
    rw [e1] at f1
    cases f1
    have hdd : dss'' = dss' := List.map_inj_right (f := PyData.list) (fun _ _ h => PyData.list.inj h) |>.mp f0.symm
    subst hdd
    have hqq : qs'' = qs' := by
      have := x2.h _ _ e2'
      rw [f2] at this
      have h9 : qs''.map V.ref = qs'.map V.ref := by
        injection this with h
        injection h
      exact List.map_inj_right (f := V.ref) (fun _ _ h => V.ref.inj h) |>.mp h9
    subst hqq
    obtain ⟨qb, ys', v1, v2, v3, v4⟩ := wr2 j es (map_list_get hds)
    rw [w1] at v1
    cases v1
    split at ez
    · rename_i hlt
      cases ez
      refine ⟨qa, ys', v, rfl, rfl, v2, by rw [v3.length]; exact lim_lt hlt, q B2 σ _ (x1.trans x2).b ?_⟩
      have := v4 (ys' ++ [v]) (es ++ [d]) (v3.append (.cons hv .nil))
      rw [List.map_set] at this
      exact this
    · cases ez
/-- x[k][l] = e -/
def putInS (i : Nat) (fe fi fj : Env → Rs D) : Env → Out := fun γ => liftS ((fe γ).bind fun d => (lsE γ i).bind fun ds => (fi γ).bind fun k => (oR (ixJ ds k)).bind fun t => (fj γ).bind fun l => oR ((putL t.2 d l).map fun es => ds.set t.1 (.list es))) γ fun es => .nx (γ.set i (some (.list es)))
theorem s_put2 {x : Str} {ix jx : Expr} {p1 p2 p4 : Pos} {fi fj : Env → Rs D} (i : Nat) (he : PE X e (cV G ow 0 fe)) (hix : PE X ix (cV G ow 1 fi)) (hjx : PE X jx (cV G ow 1 fj)) (hk : ow.getD i 0 = 2 := by rfl) (hi : X.N[i]? = some x := by rfl) (hv : Vis X.env.scope x := by first | exact Or.inl rfl | exact Or.inr (Or.inl rfl) | exact Or.inr (Or.inr rfl)) (hg : G.x = none := by rfl)
    (hd : (x == ("__debug__" : Str)) = false := by decide) (hcd : (x == ("__classdict__" : Str)) = false := by decide) (hpl : PlainIx ix := by intro _ _; rfl)
    (h1 : PE X e (cV G ow 0 fe) → PG X (.Subscript (.Subscript (.Name x p1) ix p4) jx p2) (gSub (tOp (rIxL X.K) (tVar i) (cV G ow 1 fi)) (cV G ow 1 fj) rSetL) → PS X (.Assign [.Subscript (.Subscript (.Name x p1) ix p4) jx p2] e pos) (tAsg (cV G ow 0 fe) (gSub (tOp (rIxL X.K) (tVar i) (cV G ow 1 fi)) (cV G ow 1 fj) rSetL)) := by exact fun h1 h2 => ps_asg h1 h2)
    (h2 : PE X (.Subscript (.Name x p1) ix p4) (tOp (rIxL X.K) (tVar i) (cV G ow 1 fi)) → PE X jx (cV G ow 1 fj) → PG X (.Subscript (.Subscript (.Name x p1) ix p4) jx p2) (gSub (tOp (rIxL X.K) (tVar i) (cV G ow 1 fi)) (cV G ow 1 fj) rSetL) := by exact fun h1 h2 => pg_sub h1 h2 set_list) :
    PS X (.Assign [.Subscript (.Subscript (.Name x p1) ix p4) jx p2] e pos) (cS G ow ow owL (putInS i fe fi fj)) :=
  (h1 he (h2 (pe_ix ix_list (pe_var hi hv hd hcd) hix hpl) hjx)).impD fun J σ H ⟨B, γ, I, q⟩ => ⟨B, γ, I, (OutP.lift I q).bind.imp fun d q v B1 H1 x1 hv => by
    obtain ⟨ds, hgi, q⟩ := q.bind.lsE
    obtain ⟨p, qs, dss, e0, e1, e2, _⟩ := (I.mono x1).wr2 hg hk hgi
    refine ⟨.ref p, e1, B1, γ, I.mono x1, q.bind.mono x1 fun k q u B2 H2 x2 hu => ?_⟩
    obtain ⟨⟨j, es⟩, ej, q5⟩ := q.bind.oR
    obtain ⟨n, rfl, hj, hds⟩ := ixJ_some ej
    obtain ⟨p', qs', dss', e0', e1', e2', e3', wr⟩ := (I.mono (x1.trans x2)).wr2 hg hk hgi
    rw [e1] at e1'
    cases e1'
    subst e0'
    rw [List.length_map] at hj
    obtain ⟨qa, ys, w1, w2, w3, _⟩ := wr j es (map_list_get hds)
    have hat : atI (qs'.map V.ref) n = some (.ref qa) := by
      unfold atI
      rw [List.length_map, e3', hj]
      simp [w1]
    refine ⟨p, _, n, .ref qa, rfl, hu.int, .inl (.inl e2'), hat, B2, γ, I.mono (x1.trans x2), q5.bind.mono (x1.trans x2) fun l q w B3 H3 x3 hw => ?_⟩
    obtain ⟨z, ez, q⟩ := q.oR
    obtain ⟨p'', qs'', dss'', f0, f1, f2, f3, wr2⟩ := (I.mono ((x1.trans x2).trans x3)).wr2 hg hk hgi
    rw [e1] at f1
    cases f1
    have hdd : dss'' = dss' := List.map_inj_right (f := PyData.list) (fun _ _ h => PyData.list.inj h) |>.mp f0.symm
    subst hdd
    have hqq : qs'' = qs' := by
      have := x3.h _ _ e2'
      rw [f2] at this
      have h9 : qs''.map V.ref = qs'.map V.ref := by
        injection this with h
        injection h
      exact List.map_inj_right (f := V.ref) (fun _ _ h => V.ref.inj h) |>.mp h9
    subst hqq
    obtain ⟨qb, ys', v1, v2, v3, v4⟩ := wr2 j es (map_list_get hds)
    rw [w1] at v1
    cases v1
    obtain ⟨es', ep, ez2⟩ := Option.map_eq_some_iff.mp ez
    subst ez2
    unfold putL at ep
    split at ep
    · rename_i m
      cases hm : ixN es.length m with
      | none => rw [hm] at ep; cases ep
      | some t =>
        rw [hm] at ep
        cases ep
        refine ⟨qa, ys', m, t, rfl, hw.int, v2, by rw [v3.length]; exact hm, q B3 σ _ ((x1.trans x2).trans x3).b ?_⟩
        have := v4 (ys'.set t v) (es.set t d) (v3.set (Dn.mono (x2.trans x3).b hv) t)
        rw [List.map_set] at this
        exact this
    · cases ep⟩
end
end DL
set_option Elab.async false
set_option linter.all false
set_option maxRecDepth 100000
set_option maxHeartbeats 4000000
/-! The data layer: comprehensions that make own lists of own lists; dict comprehensions. -/
namespace DL
open PySem PySem.Spec PyProof.Rows L2
section
variable {G : Gd} {ow : List Nat} {B H B' H' : Hp} {σ : L2.St} {γ : Env}
theorem EnvR.setN2 (I : EnvR G ow B H σ γ) (i : Nat) (hx : G.x = none) (hi : i < ow.length) {p : Addr} {qs : List Addr} {dss : List (List D)} (x : Ext B H B' H') (hp : H p = none) (hb : B' p = none) (hl : H' p = some (.lst (qs.map V.ref))) (hnd : qs.Nodup) (hpq : p ∉ qs)
    (h : Paired (fun q (ds : List D) => H q = none ∧ B' q = none ∧ ∃ ys, H' q = some (.lst ys) ∧ DnAll G.K B' ys ds) qs dss) : EnvR G (ow.set i 2) B' H' (σ.set i (some (.ref p))) (γ.set i (some (.list (dss.map PyData.list)))) := by
  have I' := I.mono x
  obtain ⟨own0, g1, g2, g3⟩ := I.v
  have hG : ∀ q, H q = none → G.H q = none := fun q hq => by
    cases z : G.H q with
    | none => rfl
    | some o => rw [I.e.h q o z] at hq; cases hq
  have hqs : ∀ q ∈ qs, H q = none ∧ B' q = none ∧ NT H' q := fun q hq => by
    obtain ⟨m, hm⟩ := List.getElem?_of_mem hq
    have hml := (List.getElem?_eq_some_iff.mp hm).1
    rw [paired_len h] at hml
    obtain ⟨q', w1, w2, w3, ys, w4, _⟩ := paired_get h (List.getElem?_eq_getElem hml)
    rw [hm] at w1
    cases w1
    exact ⟨w2, w3, nt_lst w4⟩
  refine ⟨I'.s, I'.e, by rw [List.length_set, List.length_set, I'.len], (fun t z => by rw [hx] at z; cases z), fun j a => if j = i then (a = p ∨ a ∈ qs) else own0 j a, fun j a hj => ?_, fun j k a hj hk => ?_, fun j e q => ?_⟩
  · dsimp only at hj
    split at hj
    · rcases hj with rfl | hj
      · exact ⟨hb, hG _ hp, nt_lst hl⟩
      · obtain ⟨c1, c2, c3⟩ := hqs a hj
        exact ⟨c2, hG _ c1, c3⟩
    · obtain ⟨c1, c2, c3⟩ := g1 j a hj
      exact ⟨x.n a c1 c3, c2, c3.mono x.h⟩
  · have new : ∀ a, (a = p ∨ a ∈ qs) → H a = none := fun a z => by
      rcases z with rfl | z
      · exact hp
      · exact (hqs a z).1
    dsimp only at hj hk
    split at hj
    · rename_i e1
      split at hk
      · rename_i e2; rw [e1, e2]
      · exact absurd (new a hj) (g1 k a hk).2.2.ne
    · split at hk
      · exact absurd (new a hk) (g1 j a hj).2.2.ne
      · exact g2 j k a hj hk
  · by_cases z : j = i
    · subst z
      have hj : j < γ.length := by
        by_cases y : j < γ.length
        · exact y
        · rw [List.getElem?_eq_none (by rw [List.length_set]; omega)] at q; cases q
      rw [List.getElem?_set_self hj] at q
      cases q
      refine ⟨.ref p, List.getElem?_set_self (by rw [← I.len]; exact hj), ?_⟩
      rw [ow_set_self _ _ _ (.inl hi)]
      refine ⟨p, qs, dss, rfl, rfl, by dsimp only; rw [if_pos rfl]; exact .inl rfl, hl, hnd, hpq, paired_mem h fun a b ha ⟨_, _, ys, c1, c2⟩ => ⟨by dsimp only; rw [if_pos rfl]; exact .inr ha, ys, c1, c2⟩⟩
    · rw [List.getElem?_set_ne (Ne.symm z)] at q
      obtain ⟨w, e1, r⟩ := g3 j e q
      refine ⟨w, by rw [List.getElem?_set_ne (Ne.symm z)]; exact e1, ?_⟩
      rw [ow_set_ne _ _ z]
      refine (r.mono x).monoB (.refl _) fun a ha => ?_
      dsimp only
      rw [if_neg z]
      exact ha
end
section
variable {X : Cx} {elt tg iter : Expr} {ifs : List Expr} {pos : Pos} {G : Gd} {ow owL : List Nat}
theorem lc_imp2 {vs : List Nat} {t : D → Env → Option Env} {c : Env → Rs Bool} {fe : Env → Rs (List D)} {fi : Env → Rs (List D)} (hg : G.x = none) {σ : L2.St} {H : Hp} {Q : VK}
    (h : ∃ B γ, EnvR G ow B H σ γ ∧ RsP G σ B H ((fi γ).bind fun ds => compR vs t c (eL fe) ds γ) fun zs => ∀ (p : Addr) (qs : List Addr) (dss : List (List D)) (B' H' : Hp), zs = dss.map PyData.list → Ext B H B' H' → H p = none → B' p = none → H' p = some (.lst (qs.map V.ref)) → qs.Nodup → p ∉ qs →
      Paired (fun q (ds : List D) => H q = none ∧ B' q = none ∧ ∃ ys, H' q = some (.lst ys) ∧ DnAll G.K B' ys ds) qs dss → Q (.ref p) H') :
    tLc (cI G ow fi) (cG G.mute ow vs t) (cT G.mute ow c) (cN G.mute ow fe) vs σ H Q := by
  obtain ⟨B, γ, I, q⟩ := h
  refine ⟨B, γ, I, q.bind.imp fun ds q J B1 H1 x1 jw => fun Da hDa => ?_⟩
  unfold compR at q
  cases hr : compL t c (eL fe) ds (wipeE γ vs) with
  | er _ _ => exact absurd hr compL_er
  | no => rw [hr] at q; exact q.elim
  | ok zs =>
    rw [hr] at q
    obtain ⟨zs', ez, q9⟩ := RsP.oR (show RsP G σ B H (oR (szL zs)) _ from q)
    obtain ⟨hl, e9⟩ := szL_some ez
    subst e9
    refine ⟨fun i m H' => i ≤ ds.length ∧ m = ds.length - i ∧ ∃ (B' : Hp) (dn : List (List D)) (rs : List D) (qs : List Addr), Ext B1 H1 B' H' ∧ B' Da = none ∧ H' Da = some (.lst (qs.map V.ref)) ∧ qs.Nodup ∧ Da ∉ qs ∧ Paired (fun q (ds : List D) => H1 q = none ∧ B' q = none ∧ ∃ ys, H' q = some (.lst ys) ∧ DnAll G.K B' ys ds) qs dn ∧ compL t c (eL fe) (ds.drop i) (wipeE γ vs) = .ok rs ∧ dn.map PyData.list ++ rs = zs',
      ⟨ds.length, Nat.zero_le _, by omega, B1, [], zs', [], .hid x1.s hDa, same_none x1.s hDa, upd_same, .nil, by simp, .nil, hr, rfl⟩, fun i m H' hW => ?_⟩
    obtain ⟨hi, rfl, B', dn, rs, qs, xx, hb, hl', hnd, hDq, hd, hc, he⟩ := hW
    obtain ⟨j1, j2⟩ := jw B' H' xx.b xx.s i
    by_cases hlt : i < ds.length
    · obtain ⟨jg, jy⟩ := j1 _ (List.getElem?_eq_getElem hlt)
      refine .inr ⟨jg, fun H2 => ∃ (B2 : Hp) (dn : List (List D)) (rs : List D) (qs : List Addr), Ext B1 H1 B2 H2 ∧ B2 Da = none ∧ H2 Da = some (.lst (qs.map V.ref)) ∧ qs.Nodup ∧ Da ∉ qs ∧ Paired (fun q (ds : List D) => H1 q = none ∧ B2 q = none ∧ ∃ ys, H2 q = some (.lst ys) ∧ DnAll G.K B2 ys ds) qs dn ∧ compL t c (eL fe) (ds.drop (i + 1)) (wipeE γ vs) = .ok rs ∧ dn.map PyData.list ++ rs = zs', fun H2 hN => ⟨ds.length - (i + 1), by omega, by omega, rfl, hN⟩, fun x H2 hy => ?_⟩
      obtain ⟨B2, x2, hx⟩ := jy x H2 hy
      rw [List.drop_eq_getElem_cons hlt] at hc
      obtain ⟨γ1, ht, b, hcb, hrest⟩ := compL_cons hc
      have keepD : ∀ {B3 H3 : Hp}, Ext B' H' B3 H3 → B3 Da = none ∧ H3 Da = some (.lst (qs.map V.ref)) := fun y => ⟨y.n Da hb ⟨_, hl', fun _ z => nomatch z⟩, y.h _ _ hl'⟩
      have keepP : ∀ {B3 H3 : Hp}, Ext B' H' B3 H3 → Paired (fun q (ds : List D) => H1 q = none ∧ B3 q = none ∧ ∃ ys, H3 q = some (.lst ys) ∧ DnAll G.K B3 ys ds) qs dn := fun y => Paired.mapP hd fun q ds ⟨c1, c2, ys, c3, c4⟩ => ⟨c1, y.n q c2 (nt_lst c3), ys, y.h _ _ c3, c4.mono y.b⟩
      refine ⟨B2, wipeE γ vs, ds[i], γ1, ((I.mono (x1.trans (xx.trans x2))).mute).wipe hg vs, hx, ht, fun σ3 hw3 I3 => ⟨hw3.trans (wipe_wipe _ _), B2, γ1, I3, ?_⟩⟩
      rw [hcb]
      intro B3 H3 x3
      rcases hrest with ⟨rfl, y, ys, hy1, hy2, rfl⟩ | ⟨rfl, hy2⟩
      · rw [if_pos rfl]
        refine ⟨B3, γ1, I3.mono x3, ?_⟩
        cases hfe : fe γ1 with
        | er _ _ =>
          have : (fe γ1).map PyData.list = .ok y := hy1
          rw [hfe] at this
          cases this
        | no =>
          have : (fe γ1).map PyData.list = .ok y := hy1
          rw [hfe] at this
          cases this
        | ok es =>
          have hye : (fe γ1).map PyData.list = .ok y := hy1
          rw [hfe] at hye
          cases hye
          intro qn xs B4 H4 x4 hqn hbn hln hdn
          have y4 := (x2.trans x3).trans x4
          obtain ⟨k1, k2⟩ := keepD y4
          obtain ⟨k3, k4⟩ := keepD (x2.trans x3)
          have hP := keepP y4
          have hP3 := keepP (x2.trans x3)
          have hnD : qn ≠ Da := fun z => by subst z; rw [k4] at hqn; cases hqn
          have hnq : qn ∉ qs := fun z => by
            obtain ⟨m, hm⟩ := List.getElem?_of_mem z
            have hml := (List.getElem?_eq_some_iff.mp hm).1
            rw [paired_len hP3] at hml
            obtain ⟨q', w1, w2, w3, ys', w4, _⟩ := paired_get hP3 (List.getElem?_eq_getElem hml)
            rw [hm] at w1
            cases w1
            rw [w4] at hqn
            cases hqn
          have hn1 : H1 qn = none := by
            cases z : H1 qn with
            | none => rfl
            | some o => rw [(xx.trans (x2.trans x3)).h qn o z] at hqn; cases hqn
          refine ⟨qs.map V.ref, k2, ?_, B4, dn ++ [es], ys, qs ++ [qn], (xx.trans y4).wrh hDa k1, k1, by rw [upd_same]; simp, ?_, ?_, paired_append (paired_mem hP fun q ds hq ⟨c1, c2, ys, c3, c4⟩ => ⟨c1, c2, ys, ?_, c4⟩) (.cons ⟨hn1, hbn, xs, by rw [upd_ne hnD]; exact hln, hdn⟩ .nil), hy2, ?_⟩
          · rw [List.length_map, paired_len hd]
            refine lim_lt ?_
            have : zs'.length = dn.length + (ys.length + 1) := by rw [← he, List.length_append, List.length_cons, List.length_map]
            omega
          · rw [List.nodup_append]
            refine ⟨hnd, by simp, fun a ha b hb' e => ?_⟩
            rw [List.mem_singleton] at hb'
            subst hb'
            subst e
            exact hnq ha
          · rw [List.mem_append, List.mem_singleton]
            rintro (z | z)
            · exact hDq z
            · exact hnD z.symm
          · have : q ≠ Da := fun z => by subst z; exact hDq hq
            rw [upd_ne this]; exact c3
          · rw [List.map_append, List.append_assoc]; exact he
      · rw [if_neg (by decide)]
        obtain ⟨k1, k2⟩ := keepD (x2.trans x3)
        exact ⟨B3, dn, rs, qs, xx.trans (x2.trans x3), k1, k2, hnd, hDq, keepP (x2.trans x3), hy2, he⟩
    · refine .inl ⟨j2 (by omega), ?_⟩
      rw [List.drop_eq_nil_of_le (by omega)] at hc
      cases hc
      rw [List.append_nil] at he
      have hHfree : ∀ q, H1 q = none → H q = none := fun q hq => x1.h.free hq
      exact q9 Da qs dn B' H' he.symm (x1.trans xx) (x1.h.free hDa) hb hl' hnd hDq (Paired.mapP hd fun q ds ⟨c1, c2, r⟩ => ⟨hHfree q c1, c2, r⟩)
variable {scope : Scope} {own : List (Str × Nat)} {t : D → Env → Option Env} {c : Env → Rs Bool} {fe : Env → Rs (List D)} {fi : Env → Rs (List D)}
/-- x = [a new list for ..], x an own list of own lists -/
theorem s_newLc2 {ow' : List Nat} {y : Str} {py spos : Pos} (i : Nat) (own : List (Str × Nat)) (hN : X.N.Nodup) (hi : PI X tg iter (cI G ow fi)) (ok : BlkOk X.N X.env.scope scope own)
    (hg : ∀ (s : Shared) (H : Hp) (C : Addr) (cl : List (Str × Addr)) (fp : List Addr), PG (X.blk s H scope (compEnvC scope cl C X.env) fp) tg (cG G.mute ow (own.map (·.2)) t)) (ht : ∀ (s : Shared) (H : Hp) (C : Addr) (cl : List (Str × Addr)) (fp : List Addr), PTs (X.blk s H scope (compEnvC scope cl C X.env) fp) ifs (cT G.mute ow c))
    (he : ∀ (s : Shared) (H : Hp) (C : Addr) (cl : List (Str × Addr)) (fp : List Addr), PE (X.blk s H scope (compEnvC scope cl C X.env) fp) elt (cN G.mute ow fe)) (hsw : swapsWith (.ListComp elt [⟨tg, iter, ifs, 0⟩] scope pos) (some (.Name y py)) spos.line X.env = pure true)
    (hw : ow.set i 2 = ow' := by rfl) (hlt : i < ow.length := by decide) (hy : X.N[i]? = some y := by rfl) (hyl : X.env.scope.names.lookup y = some .local := by rfl) (hc : X.calm = true := by rfl) (hx : G.x = none := by rfl) (hs : ∀ x, foldedSetIterable iter X.env x = pure x := by intro _; rfl) :
    PS X (.Assign [.Name y py] (.ListComp elt [⟨tg, iter, ifs, 0⟩] scope pos) spos) (cS G ow ow' owL fun γ => liftS ((fi γ).bind fun ds => compR (own.map (·.2)) t c (eL fe) ds γ) γ fun ds => .nx (γ.set i (some (.list ds)))) :=
  (ps_setLc hc hN hy hyl hsw hi ok hg ht he hs).impD fun J σ H ⟨B, γ, I, q⟩ => lc_imp2 hx ⟨B, γ, I, (q.lift I).imp fun ds q p qs dss B1 H1 ed x1 hp hb hl hnd hpq hd => by
    subst ed
    refine q B1 _ H1 x1.b ?_
    rw [← hw]
    exact I.setN2 i hx hlt x1 hp hb hl hnd hpq hd⟩
end
end DL
set_option Elab.async false
set_option linter.all false
set_option maxRecDepth 100000
set_option maxHeartbeats 4000000
/-! The data layer: dict comprehensions with ints or texts as keys. -/
namespace DL
open PySem PySem.Spec PyProof.Rows L2

def keyO : D → Option Key
  | .int i => some (.inl i)
  | .str x => some (.inr x)
  | _ => none
def putKD (es : List (Key × D)) (k : Key) (d : D) : List (Key × D) :=
  if (es.any fun kv => decide (kv.1 = k)) = true then es.map (fun kv => if kv.1 = k then (kv.1, d) else kv) else es ++ [(k, d)]
abbrev KvR (K : PySem.W.Frag) (B : Hp) : List (Key × V) → List (Key × D) → Prop := Paired fun (p : Key × V) (q : Key × D) => p.1 = q.1 ∧ Dn K B p.2 q.2
def dicD (es : List (Key × D)) : D := .dict (es.map fun q => (kD q.1, q.2))
section
variable {K : PySem.W.Frag} {B B' H : Hp}
theorem KvR.dn : ∀ {kvs : List (Key × V)} {es : List (Key × D)}, KvR K B kvs es → DnKv K B kvs (es.map fun q => (kD q.1, q.2))
  | _, _, .nil => .nil
  | (k, v) :: _, (k', d) :: _, .cons a t => by
    obtain ⟨rfl, a2⟩ := (show k = k' ∧ Dn K B v d from a)
    exact .cons a2 (KvR.dn t)
theorem KvR.mono (s : Same B B') {kvs : List (Key × V)} {es : List (Key × D)} (h : KvR K B kvs es) : KvR K B' kvs es := Paired.mapP h fun _ _ ⟨a, b⟩ => ⟨a, b.mono s⟩
theorem KvR.any {kvs : List (Key × V)} {es : List (Key × D)} (k : Key) (h : KvR K B kvs es) : (kvs.any fun kv => decide (kv.1 = k)) = es.any fun kv => decide (kv.1 = k) := by
  induction h with
  | nil => rfl
  | cons a t ih => rw [List.any_cons, List.any_cons, ih, a.1]
theorem KvR.put {kvs : List (Key × V)} {es : List (Key × D)} {k : Key} {v : V} {d : D} (h : KvR K B kvs es) (hv : Dn K B v d) : KvR K B (putK kvs k v) (putKD es k d) := by
  have key : KvR K B (kvs.map fun kv => if kv.1 = k then (kv.1, v) else kv) (es.map fun kv => if kv.1 = k then (kv.1, d) else kv) := by
    induction h with
    | nil => exact .nil
    | cons a t ih =>
      refine .cons ?_ ih
      dsimp only
      rw [a.1]
      split
      · exact ⟨rfl, hv⟩
      · exact a
  unfold putK putKD
  rw [h.any k]
  split
  · exact key
  · exact paired_append h (.cons ⟨rfl, hv⟩ .nil)
end
def compDA (t : D → Env → Option Env) (c : Env → Rs Bool) (fk fv : Env → Rs D) : List D → Env → List (Key × D) → Rs (List (Key × D))
  | [], _, acc => .ok acc
  | d :: ds, γ, acc => match t d γ with
    | none => .no
    | some γ1 => (noEr (c γ1)).bind fun b => if b = true then (noEr (fk γ1)).bind fun k => (noEr (fv γ1)).bind fun z => match keyO k with
      | some k => if acc.length < LIM then compDA t c fk fv ds γ (putKD acc k z) else .no
      | none => .no
    else compDA t c fk fv ds γ acc
theorem noEr_bind {α : Type} {x : Rs α} {β : Type} {f : α → Rs β} {y : β} (h : (noEr x).bind f = .ok y) : ∃ a, x = .ok a ∧ f a = .ok y := by
  cases x with
  | ok a => exact ⟨a, rfl, h⟩
  | er _ _ => cases h
  | no => cases h
theorem compDA_cons {t : D → Env → Option Env} {c : Env → Rs Bool} {fk fv : Env → Rs D} {d : D} {ds : List D} {γ : Env} {acc rs : List (Key × D)} (h : compDA t c fk fv (d :: ds) γ acc = .ok rs) :
    ∃ γ1, t d γ = some γ1 ∧ ∃ b, c γ1 = .ok b ∧ ((b = true ∧ ∃ kd z k, fk γ1 = .ok kd ∧ fv γ1 = .ok z ∧ keyO kd = some k ∧ acc.length < LIM ∧ compDA t c fk fv ds γ (putKD acc k z) = .ok rs) ∨ (b = false ∧ compDA t c fk fv ds γ acc = .ok rs)) := by
  unfold compDA at h
  split at h
  · cases h
  · rename_i γ1 ht
    refine ⟨γ1, ht, ?_⟩
    obtain ⟨b, e1, h⟩ := noEr_bind h
    refine ⟨b, e1, ?_⟩
    cases b with
    | false => exact .inr ⟨rfl, h⟩
    | true =>
      rw [if_pos rfl] at h
      obtain ⟨kd, e2, h⟩ := noEr_bind h
      obtain ⟨z, e3, h⟩ := noEr_bind h
      split at h
      · rename_i k hk
        split at h
        · rename_i hl
          exact .inl ⟨rfl, kd, z, k, e2, e3, hk, hl, h⟩
        · cases h
      · cases h
def compDR (vs : List Nat) (t : D → Env → Option Env) (c : Env → Rs Bool) (fk fv : Env → Rs D) (ds : List D) (γ : Env) : Rs D := match compDA t c fk fv ds (wipeE γ vs) [] with
  | .ok es => .ok (dicD es)
  | _ => .no
@[simp] abbrev eDc (vs : List Nat) (fi : Env → Rs (List D)) (t : D → Env → Option Env) (c : Env → Rs Bool) (fk fv : Env → Rs D) : Env → Rs D := fun γ => (fi γ).bind fun ds => compDR vs t c fk fv ds γ
theorem keyO_kV {B H : Hp} {K : PySem.W.Frag} {v : V} {d : D} {k : Key} (h : keyO d = some k) (hv : DnF K B H 0 v d) : v = kV k := by
  unfold keyO at h
  split at h
  · cases h; exact hv.int
  · cases h; exact hv.str
  · cases h
section
variable {X : Cx} {kx vx tg iter : Expr} {ifs : List Expr} {pos : Pos} {G : Gd} {ow owL : List Nat} {scope : Scope} {own : List (Str × Nat)} {t : D → Env → Option Env} {c : Env → Rs Bool} {fk fv : Env → Rs D} {fi : Env → Rs (List D)}
theorem d_dc (own : List (Str × Nat)) (hN : X.N.Nodup) (hi : PI X tg iter (cI G ow fi)) (ok : BlkOk X.N X.env.scope scope own)
    (hg : ∀ (s : Shared) (H : Hp) (C : Addr) (cl : List (Str × Addr)) (fp : List Addr), PG (X.blk s H scope (compEnvC scope cl C X.env) fp) tg (cG G.mute ow (own.map (·.2)) t)) (ht : ∀ (s : Shared) (H : Hp) (C : Addr) (cl : List (Str × Addr)) (fp : List Addr), PTs (X.blk s H scope (compEnvC scope cl C X.env) fp) ifs (cT G.mute ow c))
    (hk : ∀ (s : Shared) (H : Hp) (C : Addr) (cl : List (Str × Addr)) (fp : List Addr), PE (X.blk s H scope (compEnvC scope cl C X.env) fp) kx (cV G.mute ow 0 fk))
    (he : ∀ (s : Shared) (H : Hp) (C : Addr) (cl : List (Str × Addr)) (fp : List Addr), PE (X.blk s H scope (compEnvC scope cl C X.env) fp) vx (cV G.mute ow 0 fv)) (hc : X.calm = true := by rfl) (hx : G.x = none := by rfl) (hs : ∀ x, foldedSetIterable iter X.env x = pure x := by intro _; rfl) :
    PE X (.DictComp kx vx [⟨tg, iter, ifs, 0⟩] scope pos) (cV G ow 0 fun γ => (fi γ).bind fun ds => compDR (own.map (·.2)) t c fk fv ds γ) :=
  (pe_dc hc hN hi ok hg ht hk he hs).impD fun σ H Q ⟨B, γ, I, q⟩ => by
  refine ⟨B, γ, I, q.bind.imp fun ds q J B1 H1 x1 jw => fun Da hDa => ?_⟩
  unfold compDR at q
  cases hr : compDA t c fk fv ds (wipeE γ (own.map (·.2))) [] with
  | er _ _ => rw [hr] at q; exact q.elim
  | no => rw [hr] at q; exact q.elim
  | ok zs =>
    rw [hr] at q
    have q9 : ∀ v B' H', Ext B H B' H' → DnF G.K B' H' 0 v (dicD zs) → Q v H' := q
    refine ⟨fun i m H' => i ≤ ds.length ∧ m = ds.length - i ∧ ∃ (B' : Hp) (kvs : List (Key × V)) (acc : List (Key × D)), Ext B1 H1 B' H' ∧ B' Da = none ∧ H' Da = some (.dK kvs) ∧ KvR G.K B' kvs acc ∧ compDA t c fk fv (ds.drop i) (wipeE γ (own.map (·.2))) acc = .ok zs,
      ⟨ds.length, Nat.zero_le _, by omega, B1, [], [], .hid x1.s hDa, same_none x1.s hDa, upd_same, .nil, hr⟩, fun i m H' hW => ?_⟩
    obtain ⟨hi, rfl, B', kvs, acc, xx, hb, hl', hd, hc⟩ := hW
    obtain ⟨j1, j2⟩ := jw B' H' xx.b xx.s i
    by_cases hlt : i < ds.length
    · obtain ⟨jg, jy⟩ := j1 _ (List.getElem?_eq_getElem hlt)
      refine .inr ⟨jg, fun H2 => ∃ (B2 : Hp) (kvs : List (Key × V)) (acc : List (Key × D)), Ext B1 H1 B2 H2 ∧ B2 Da = none ∧ H2 Da = some (.dK kvs) ∧ KvR G.K B2 kvs acc ∧ compDA t c fk fv (ds.drop (i + 1)) (wipeE γ (own.map (·.2))) acc = .ok zs, fun H2 hN => ⟨ds.length - (i + 1), by omega, by omega, rfl, hN⟩, fun x H2 hy => ?_⟩
      obtain ⟨B2, x2, hx2⟩ := jy x H2 hy
      rw [List.drop_eq_getElem_cons hlt] at hc
      obtain ⟨γ1, ht, b, hcb, hrest⟩ := compDA_cons hc
      have keepD : ∀ {B3 H3 : Hp}, Ext B' H' B3 H3 → B3 Da = none ∧ H3 Da = some (.dK kvs) := fun y => ⟨y.n Da hb ⟨_, hl', fun _ z => nomatch z⟩, y.h _ _ hl'⟩
      refine ⟨B2, wipeE γ (own.map (·.2)), ds[i], γ1, ((I.mono (x1.trans (xx.trans x2))).mute).wipe hx (own.map (·.2)), hx2, ht, fun σ3 hw3 I3 => ⟨hw3.trans (wipe_wipe _ _), B2, γ1, I3, ?_⟩⟩
      rw [hcb]
      intro B3 H3 x3
      rcases hrest with ⟨rfl, kd, z, k, hk1, hv1, hko, hlim, hy2⟩ | ⟨rfl, hy2⟩
      · rw [if_pos rfl]
        refine ⟨B3, γ1, I3.mono x3, ?_⟩
        rw [hk1]
        intro y B4 H4 x4 hy
        refine ⟨B4, γ1, I3.mono (x3.trans x4), ?_⟩
        rw [hv1]
        intro v B5 H5 x5 hv
        have y5 := ((x2.trans x3).trans x4).trans x5
        obtain ⟨k1, k2⟩ := keepD y5
        exact ⟨kvs, k, keyO_kV hko hy, k2, by rw [paired_len hd]; exact lim_lt hlim, B5, _, _, (xx.trans y5).wrh hDa k1, k1, upd_same, (hd.mono y5.b).put hv, hy2⟩
      · rw [if_neg (by decide)]
        obtain ⟨k1, k2⟩ := keepD (x2.trans x3)
        exact ⟨B3, kvs, acc, xx.trans (x2.trans x3), k1, k2, hd.mono (x2.trans x3).b, hy2⟩
    · refine .inl ⟨j2 (by omega), ?_⟩
      rw [List.drop_eq_nil_of_le (by omega)] at hc
      cases hc
      have xs : Ext B H (upd B' Da (.dK kvs)) H' := (x1.trans xx).shown (x1.h.free hDa) hb hl'
      exact q9 (.ref Da) _ H' xs (.dic upd_same (KvR.dn (hd.mono (same_new hb))))
end
end DL
set_option Elab.async false
set_option linter.all false
set_option maxRecDepth 100000
set_option maxHeartbeats 4000000
/-! The data layer: xs[::-1]; written tables with text keys. -/
namespace DL
open PySem PySem.Spec PyProof.Rows L2

def revLD : D → Option (List D)
  | .list ds => some ds.reverse
  | _ => none
section
variable {X : Cx} {a : Expr} {pos : Pos} {G : Gd} {ow : List Nat} {f : Env → Rs D}
theorem n_rev {k : Nat} {p1 p2 p3 : Pos} (ha : PE X a (cV G ow 1 f)) (hK : X.K = G.K := by rfl) :
    PE X (.Subscript a (.Slice none none (some (.UnaryOp .USub (.Constant (.int 1) k p1) p2)) p3) pos) (cN G ow fun γ => (f γ).bind fun d => oR (revLD d)) :=
  (pe_revL ha).impD fun σ H Q ⟨B, γ, I, q⟩ => ⟨B, γ, I, q.bind.imp fun d q v B1 H1 x1 hv => by
    obtain ⟨z, ez, q9⟩ := q.oR
    unfold revLD at ez
    split at ez
    · cases ez
      obtain ⟨p, us, rfl, h1, h2⟩ := hv.items x1.s
      rw [hK]
      refine ⟨p, us, rfl, .inl h1, fun r hr => q9 r _ B1 _ (x1.trans (.hid x1.s hr)) (x1.h.free hr) (same_none x1.s hr) upd_same (DnAll.of_paired h2).reverse⟩
    · cases ez⟩
end

/-! ### written tables -/
/-- a value that needs no heap -/
inductive Cst : V → D → Prop
  | non : Cst .non .none
  | bl (b : Bool) : Cst (.bl b) (.bool b)
  | int (i : Int) : Cst (.int i) (.int i)
  | str (x : Str) : Cst (.str x) (.str x)
theorem Cst.dn {K : PySem.W.Frag} {B : Hp} {v : V} {d : D} (h : Cst v d) : Dn K B v d := by
  cases h with
  | non => exact .non
  | bl b => exact .bl b
  | int i => exact .int i
  | str x => exact .str x
def EntR (e : DictEntry) (q : Str × D) : Prop := (∃ t, e.key = .str q.1 t) ∧ ∃ v, Cst v q.2 ∧ RelV v e.val
/-- the name of a table, as the module's top has written it -/
def WTab (K : PySem.W.Frag) (mg : Str → Option Value) (w : World) (x : Str) (tab : List (Str × D)) : Prop :=
  ∃ d es n, mg x = some (.ref d) ∧ KDict K w d es n ∧ Paired EntR es.toList tab
theorem ent_find {x : Str} : ∀ {l : List DictEntry} {tab : List (Str × D)}, Paired EntR l tab → match tab.find? (fun q => decide (q.1 = x)) with
    | some q => ∃ e, l.find? (·.key.isStr x) = some e ∧ EntR e q
    | none => l.find? (·.key.isStr x) = none
  | _, _, .nil => rfl
  | e :: l, q :: tab, .cons a t => by
    obtain ⟨⟨tk, hk⟩, hv⟩ := a
    have hs : e.key.isStr x = decide (q.1 = x) := by
      rw [hk]
      show (q.1 == x) = _
      by_cases hx : q.1 = x <;> simp [hx]
    rw [List.find?_cons, List.find?_cons, hs]
    cases decide (q.1 = x) with
    | true => exact ⟨e, rfl, ⟨tk, hk⟩, hv⟩
    | false => exact ent_find t
theorem ent_ref : ∀ {l : List DictEntry} {tab : List (Str × D)}, Paired EntR l tab → l.any (·.refKey) = false
  | _, _, .nil => rfl
  | e :: l, q :: tab, .cons a t => by
    obtain ⟨⟨tk, hk⟩, _⟩ := a
    rw [List.any_cons, ent_ref t]
    have : e.refKey = false := by
      unfold DictEntry.refKey
      rw [hk]
    rw [this]
    rfl
theorem tab_ns {K : PySem.W.Frag} {d : Addr} {es : Array DictEntry} {n : Nat} {tab : List (Str × D)} (hl : K.lookup d = some ⟨.type "dict", none, .dict es n, #[]⟩) (h : Paired EntR es.toList tab) (x : Str) :
    match tab.find? (fun q => decide (q.1 = x)) with
    | some q => ∃ v u, Cst v q.2 ∧ RelV v u ∧ PySem.W.nsIn K d x = some (some u)
    | none => PySem.W.nsIn K d x = some none := by
  have hf := ent_find (x := x) h
  have e : PySem.W.nsIn K d x = (match es.toList.find? (·.key.isStr x) with
      | some e => some (some e.val)
      | none => if es.toList.any (·.refKey) then none else some none) := by
    unfold PySem.W.nsIn
    rw [hl]
    rfl
  cases hq : tab.find? (fun q => decide (q.1 = x)) with
  | some q =>
    rw [hq] at hf
    obtain ⟨en, h1, _, v, h2, h3⟩ := hf
    rw [h1] at e
    exact ⟨v, en.val, h2, h3, e⟩
  | none =>
    rw [hq] at hf
    have hf' : es.toList.find? (·.key.isStr x) = none := hf
    rw [hf', ent_ref h] at e
    exact e
def inW (tab : List (Str × D)) (neg : Bool) : D → Option D
  | .str x => some (.bool (neg != (tab.find? fun q => decide (q.1 = x)).isSome))
  | _ => none
def ixW (tab : List (Str × D)) : D → Option D
  | .str x => (tab.find? fun q => decide (q.1 = x)).map (·.2)
  | _ => none
section
variable {X : Cx} {a : Expr} {pos p : Pos} {G : Gd} {ow : List Nat} {f : Env → Rs D} {x : Str} {tab : List (Str × D)}
theorem d_inW (T : WTab X.K X.mg X.w x tab) (ha : PE X a (cV G ow 1 f)) (hg : Gl X x := by rfl) (hd : (x == ("__debug__" : Str)) = false := by decide) (hm : behindInMarks .In (.Name x p) = false := by rfl) :
    PE X (.Compare a [.In] [.Name x p] pos) (cV G ow 0 (b1 f (inW tab false))) := by
  obtain ⟨d, es, n, h1, h2, h3⟩ := T
  refine (pe_cmpR (op_in_kd h2) ha (pe_glob (v := .ref d) hg h1 rfl hd) hm).impD fun σ H Q ⟨B, γ, I, q⟩ => ⟨B, γ, I, q.bind.imp fun e q v B1 H1 x1 hv => ?_⟩
  obtain ⟨z, ez, q9⟩ := q.oR
  unfold inW at ez
  split at ez
  · rename_i y
    cases ez
    have ht := tab_ns h2.at_ h3 y
    cases hq : tab.find? (fun q => decide (q.1 = y)) with
    | some r =>
      rw [hq] at ht q9
      obtain ⟨v, u, _, _, e⟩ := ht
      exact ⟨y, _, hv.str, rfl, e, q9 _ B1 H1 x1 (Dn.bl _)⟩
    | none =>
      rw [hq] at ht q9
      exact ⟨y, _, hv.str, rfl, ht, q9 _ B1 H1 x1 (Dn.bl _)⟩
  · cases ez
theorem d_notinW (T : WTab X.K X.mg X.w x tab) (ha : PE X a (cV G ow 1 f)) (hg : Gl X x := by rfl) (hd : (x == ("__debug__" : Str)) = false := by decide) (hm : behindInMarks .NotIn (.Name x p) = false := by rfl) :
    PE X (.Compare a [.NotIn] [.Name x p] pos) (cV G ow 0 (b1 f (inW tab true))) := by
  obtain ⟨d, es, n, h1, h2, h3⟩ := T
  refine (pe_cmpR (op_notIn_kd h2) ha (pe_glob (v := .ref d) hg h1 rfl hd) hm).impD fun σ H Q ⟨B, γ, I, q⟩ => ⟨B, γ, I, q.bind.imp fun e q v B1 H1 x1 hv => ?_⟩
  obtain ⟨z, ez, q9⟩ := q.oR
  unfold inW at ez
  split at ez
  · rename_i y
    cases ez
    have ht := tab_ns h2.at_ h3 y
    cases hq : tab.find? (fun q => decide (q.1 = y)) with
    | some r =>
      rw [hq] at ht q9
      obtain ⟨v, u, _, _, e⟩ := ht
      exact ⟨y, _, hv.str, rfl, e, q9 _ B1 H1 x1 (Dn.bl _)⟩
    | none =>
      rw [hq] at ht q9
      exact ⟨y, _, hv.str, rfl, ht, q9 _ B1 H1 x1 (Dn.bl _)⟩
  · cases ez
theorem d_ixW {b : Expr} {q : Pos} (T : WTab X.K X.mg X.w x tab) (ha : PE X b (cV G ow 1 f)) (hg : Gl X x := by rfl) (hd : (x == ("__debug__" : Str)) = false := by decide) (hs : PlainIx b := by intro _ _; rfl) :
    PE X (.Subscript (.Name x q) b pos) (cV G ow 0 (b1 f (ixW tab))) := by
  obtain ⟨d, es, n, h1, h2, h3⟩ := T
  refine (pe_ix ix_kdict (pe_glob (v := .ref d) hg h1 rfl hd) ha hs).impD fun σ H Q ⟨B, γ, I, q⟩ => ⟨B, γ, I, q.bind.imp fun e q v B1 H1 x1 hv => ?_⟩
  obtain ⟨z, ez, q9⟩ := q.oR
  unfold ixW at ez
  split at ez
  · rename_i y
    have ht := tab_ns h2.at_ h3 y
    cases hq : tab.find? (fun q => decide (q.1 = y)) with
    | none => rw [hq] at ez; cases ez
    | some r =>
      rw [hq] at ht ez
      cases ez
      obtain ⟨v', u, hc, hr, e⟩ := ht
      exact ⟨d, y, v', rfl, hv.str, ⟨es, n, u, h2.at_, h2.lit, e, hr⟩, q9 _ B1 H1 x1 hc.dn⟩
  · cases ez
/-- as tests -/
theorem t_inW (T : WTab X.K X.mg X.w x tab) (ha : PE X a (cV G ow 1 f)) (hg : Gl X x := by rfl) (hd : (x == ("__debug__" : Str)) = false := by decide) (hm : behindInMarks .In (.Name x p) = false := by rfl) :
    PT X (.Compare a [.In] [.Name x p] pos) (cT G ow (b1 (b1 f (inW tab false)) boolO)) := by
  obtain ⟨d, es, n, h1, h2, h3⟩ := T
  refine (pt_cmpR (op_in_kd h2) ha (pe_glob (v := .ref d) hg h1 rfl hd) hm).impD fun σ H Q ⟨B, γ, I, q⟩ => ⟨B, γ, I, q.bind.bind.imp fun e q v B1 H1 x1 hv => ?_⟩
  obtain ⟨z, ez, q⟩ := q.oR
  obtain ⟨k, ek, q9⟩ := q.oR
  unfold inW at ez
  split at ez
  · rename_i y
    cases ez
    cases ek
    have ht := tab_ns h2.at_ h3 y
    cases hq : tab.find? (fun q => decide (q.1 = y)) with
    | some r =>
      rw [hq] at ht q9
      obtain ⟨v, u, _, _, e⟩ := ht
      exact ⟨y, _, hv.str, rfl, e, _, rfl, q9 B1 H1 x1⟩
    | none =>
      rw [hq] at ht q9
      exact ⟨y, _, hv.str, rfl, ht, _, rfl, q9 B1 H1 x1⟩
  · cases ez
theorem t_notinW (T : WTab X.K X.mg X.w x tab) (ha : PE X a (cV G ow 1 f)) (hg : Gl X x := by rfl) (hd : (x == ("__debug__" : Str)) = false := by decide) (hm : behindInMarks .NotIn (.Name x p) = false := by rfl) :
    PT X (.Compare a [.NotIn] [.Name x p] pos) (cT G ow (b1 (b1 f (inW tab true)) boolO)) := by
  obtain ⟨d, es, n, h1, h2, h3⟩ := T
  refine (pt_cmpR (op_notIn_kd h2) ha (pe_glob (v := .ref d) hg h1 rfl hd) hm).impD fun σ H Q ⟨B, γ, I, q⟩ => ⟨B, γ, I, q.bind.bind.imp fun e q v B1 H1 x1 hv => ?_⟩
  obtain ⟨z, ez, q⟩ := q.oR
  obtain ⟨k, ek, q9⟩ := q.oR
  unfold inW at ez
  split at ez
  · rename_i y
    cases ez
    cases ek
    have ht := tab_ns h2.at_ h3 y
    cases hq : tab.find? (fun q => decide (q.1 = y)) with
    | some r =>
      rw [hq] at ht q9
      obtain ⟨v, u, _, _, e⟩ := ht
      exact ⟨y, _, hv.str, rfl, e, _, rfl, q9 B1 H1 x1⟩
    | none =>
      rw [hq] at ht q9
      exact ⟨y, _, hv.str, rfl, ht, _, rfl, q9 B1 H1 x1⟩
  · cases ez
end
end DL
set_option Elab.async false
set_option linter.all false
set_option maxRecDepth 100000
set_option maxHeartbeats 4000000
/-! The data layer: how many different ones there are, len(set(xs)). -/
namespace DL
open PySem PySem.Spec PyProof.Rows L2

/-- the different ones -/
def nubL {α : Type} [DecidableEq α] : List α → List α
  | [] => []
  | x :: r => if x ∈ nubL r then nubL r else x :: nubL r
theorem nubL_mem {α : Type} [DecidableEq α] {x : α} : ∀ {l : List α}, x ∈ nubL l ↔ x ∈ l
  | [] => Iff.rfl
  | y :: r => by
    unfold nubL
    split
    · rename_i h
      rw [nubL_mem, List.mem_cons]
      constructor
      · exact .inr
      · rintro (rfl | h2)
        · exact nubL_mem.mp h
        · exact h2
    · rw [List.mem_cons, List.mem_cons, nubL_mem]
theorem nubL_nd {α : Type} [DecidableEq α] : ∀ l : List α, (nubL l).Nodup
  | [] => .nil
  | y :: r => by
    unfold nubL
    split
    · exact nubL_nd r
    · rename_i h
      exact List.nodup_cons.mpr ⟨h, nubL_nd r⟩
theorem nub_count {α : Type} [DecidableEq α] {l k : List α} (hk : k.Nodup) (h : ∀ x, x ∈ k ↔ x ∈ l) : k.length = (nubL l).length :=
  ((List.perm_ext_iff_of_nodup hk (nubL_nd l)).mpr fun x => by rw [h, nubL_mem]).length_eq
theorem firstMet_nd (val : Nat → Int) : ∀ i, (firstMet val i).Nodup
  | 0 => .nil
  | i + 1 => by
    rw [firstMet_succ]
    unfold step_dedup
    split
    · exact firstMet_nd val i
    · rename_i h
      rw [List.nodup_append]
      refine ⟨firstMet_nd val i, by simp, fun a ha b hb e => h (List.any_eq_true.mpr ⟨a, ha, ?_⟩)⟩
      rw [List.mem_singleton] at hb
      rw [e, hb]
      exact beq_self_eq_true _
theorem firstMet_mem (val : Nat → Int) (x : Int) : ∀ i, x ∈ firstMet val i ↔ ∃ j, j < i ∧ val j = x
  | 0 => by
    constructor
    · intro h; cases h
    · rintro ⟨j, h, _⟩; omega
  | i + 1 => by
    have ih := firstMet_mem val x i
    rw [firstMet_succ]
    unfold step_dedup
    split
    · rename_i h
      obtain ⟨y, hy, e⟩ := List.any_eq_true.mp h
      have e : y = val i := beq_iff_eq.mp e
      rw [ih]
      constructor
      · rintro ⟨j, h1, h2⟩; exact ⟨j, by omega, h2⟩
      · rintro ⟨j, h1, h2⟩
        by_cases hj : j = i
        · subst hj
          rw [← h2, ← e]
          obtain ⟨j', h3, h4⟩ := (firstMet_mem val y j).mp hy
          exact ⟨j', h3, h4⟩
        · exact ⟨j, by omega, h2⟩
    · rw [List.mem_append, List.mem_singleton, ih]
      constructor
      · rintro (⟨j, h1, h2⟩ | h)
        · exact ⟨j, by omega, h2⟩
        · exact ⟨i, by omega, h.symm⟩
      · rintro ⟨j, h1, h2⟩
        by_cases hj : j = i
        · subst hj; exact .inr h2.symm
        · exact .inl ⟨j, by omega, h2⟩
theorem firstMet_count (ns : List Int) : (firstMet (fun i => ns.getD i 0) ns.length).length = (nubL ns).length :=
  nub_count (firstMet_nd _ _) fun x => by
    rw [firstMet_mem]
    constructor
    · rintro ⟨j, h1, h2⟩
      rw [List.getD_eq_getElem?_getD, List.getElem?_eq_getElem h1] at h2
      rw [← h2]
      exact List.getElem_mem h1
    · intro h
      obtain ⟨j, h1, h2⟩ := List.getElem_of_mem h
      exact ⟨j, h1, by rw [List.getD_eq_getElem?_getD, List.getElem?_eq_getElem h1]; exact h2⟩
def tupsO : List D → Option (List (List Int))
  | [] => some []
  | .tuple ds :: r => (intsO ds).bind fun ns => (tupsO r).map fun l => ns :: l
  | _ :: _ => none
def lsetD : D → Option D
  | .list ds => match intsO ds with
    | some ns => if ns.length ≤ 1000 then some (.int ((nubL ns).length : Nat)) else none
    | none => match tupsO ds with
      | some tss => if tss.length < 64 then some (.int ((nubL tss).length : Nat)) else none
      | none => none
  | _ => none
theorem tups_vals {K : PySem.W.Frag} {H : Hp} : ∀ {xs : List V} {ds : List D} {tss : List (List Int)}, DnAll K H xs ds → tupsO ds = some tss →
    ∃ ks : List (Addr × List Int), xs = ks.map (fun p => V.ref p.1) ∧ ks.map (·.2) = tss ∧ ∀ p ∈ ks, SqT K H p.1 (p.2.map V.int)
  | _, _, _, .nil, h => by
    cases h
    exact ⟨[], rfl, rfl, fun p hp => by cases hp⟩
  | _, _, tss, .cons (v := v) (d := d) (ds := rs) a t, h => by
    unfold tupsO at h
    split at h
    · rename_i e; cases e
    · rename_i ds r e
      cases e
      cases hi : intsO ds with
      | none => rw [hi] at h; cases h
      | some ns =>
        rw [hi] at h
        cases hr : tupsO rs with
        | none => rw [hr] at h; cases h
        | some l =>
          rw [hr] at h
          cases h
          obtain ⟨ks, h1, h2, h3⟩ := tups_vals t hr
          cases a with
          | tup s a' =>
            rename_i p us
            rw [intsO_some hi] at a'
            rw [DnAll.ints a'] at s
            exact ⟨(p, ns) :: ks, by rw [h1]; rfl, by rw [List.map_cons, h2], fun q hq => by
              rcases List.mem_cons.mp hq with e | e
              · subst e; exact .inl (.inl s)
              · exact h3 q e⟩
    · cases h
section
variable {X : Cx} {a : Expr} {p p2 q pos : Pos} {G : Gd} {ow : List Nat} {f : Env → Rs D}
/-- the reading: the list's items are ints, or tuples of ints -/
def tLS (K : PySem.W.Frag) (ta : TE) : TE := fun σ H Q => ta σ H fun x H1 => ∃ l : Addr, x = V.ref l ∧
  ((∃ ns : List Int, SqL K H1 l (ns.map V.int) ∧ ns.length ≤ 1000 ∧ Q (.int (nubL ns).length) H1) ∨
   (∃ ks : List (Addr × List Int), SqL K H1 l (ks.map fun p => V.ref p.1) ∧ (∀ p ∈ ks, SqT K H1 p.1 (p.2.map V.int)) ∧ ks.length < 64 ∧ Q (.int (nubL (ks.map (·.2))).length) H1))
theorem pe_LS {ta : TE} (hc : X.calm = true) (hu : X.A.units + 64 < cLine) (hg : Gl X "len") (hm : X.mg "len" = none) (hg2 : Gl X "set") (hm2 : X.mg "set" = none) (ha : PE X a ta)
    (na : starEach [a] X.env = (false, eval a X.env) :: starEach [] X.env := by rfl) : PE X (.Call (.Name "len" p) [.Call (.Name "set" p2) [a] [] q] [] pos) (tLS X.K ta) := ⟨fun pins s σ H Q I h => by
  refine (Call_ (ld_blt I hg hm PySem.boot_len (PyProof.Rows.callWith_builtin1 (PyProof.Rows.args_cons ?_ rfl) rfl rfl)))
  refine (Call_ (ld_blt I hg2 hm2 PyProof.Rows.boot_set (PyProof.Rows.callWith_type1 (PyProof.Rows.args_cons (thn (ha.run pins s σ H _ I h) fun v s1 h1 => PyProof.Rows.args_nil ?_) na) na rfl)))
  obtain ⟨x, H1, I1, r1, l, e1, h1⟩ := h1
  subst e1
  cases r1
  rcases h1 with ⟨ns, hq, hle, q1⟩ | ⟨ks, hq, hk, hf, q1⟩
  · obtain ⟨its, r, pl, hz⟩ := I1.list hq
    have hsz : its.toArray.size = ns.length := by simpa using r.length.symm
    refine call_set_list (ns := ns) (I1.ok.hd hc) pl.isList (by simpa using r.ints) (by unfold scanBound; omega) fun h' tk hS hk => ?_
    rw [hsz, firstMet_count] at hS
    obtain ⟨o, es, ep, t, ho, hex, hd, _, _, _, hfit, hn⟩ := hS
    have I2 : Inv X pins σ H1 { s1 with heap := h', toks := tk } := I1.kept fun b o e => (hk b o (Heap.lt_size e) e)
    have hle2 : (nubL ns).length ≤ 1000 := by
      have := (nubL_nd ns).length_le_of_subset (l₂ := ns) fun x hx => nubL_mem.mp hx
      omega
    exact PyProof.Rows.args_nil (call_len_set ho hex hd hfit (by rw [hn]; omega) ⟨.int (nubL ns).length, H1, I2.tok _, ⟨_, by rw [hn]⟩, q1⟩)
  · obtain ⟨its, r, pl, hz⟩ := I1.list hq
    refine call_set_tups (P := X.prog) (w := X.w) ks (I1.ok.hd hc) pl.isList (by simpa using refs_of_vals r) (fun p hp => I1.isT (hk p hp)) hf (by omega) fun h' tk L es ep t R g kp => ?_
    have I2 : Inv X pins σ H1 { s1 with heap := h', toks := tk } := I1.kept kp
    have hn : es.size = (nubL (ks.map (·.2))).length := by
      rw [SetTR.size (s := { s1 with heap := h', toks := tk }) R, ← List.length_map (f := (·.2))]
      refine nub_count R.nd fun x => ⟨fun hx => ?_, fun hx => ?_⟩
      · obtain ⟨z, hz, rfl⟩ := List.mem_map.mp hx
        exact List.mem_map.mpr ⟨z, List.mem_of_mem_take (g.sub z hz), rfl⟩
      · obtain ⟨z, hz, rfl⟩ := List.mem_map.mp hx
        exact g.all z (by rw [List.take_length]; exact hz)
    have hsm : es.size < 64 := by rw [SetTR.size (s := { s1 with heap := h', toks := tk }) R]; exact R.few
    obtain ⟨o, ho, hex, hd⟩ := R.ob
    exact PyProof.Rows.args_nil (call_len_set ho hex hd (SetTR.fits (s := { s1 with heap := h', toks := tk }) R) (by omega) ⟨.int (nubL (ks.map (·.2))).length, H1, I2.tok _, ⟨_, by rw [hn]⟩, q1⟩)⟩
theorem d_lset {n : Nat} (hr : Room n X.A) (hm : X.mg "len" = none) (hm2 : X.mg "set" = none) (ha : PE X a (cV G ow 1 f)) (hc : X.calm = true := by rfl) (hg : Gl X "len" := by rfl) (hg2 : Gl X "set" := by rfl) (hK : X.K = G.K := by rfl)
    (na : starEach [a] X.env = (false, eval a X.env) :: starEach [] X.env := by rfl) : PE X (.Call (.Name "len" p) [.Call (.Name "set" p2) [a] [] q] [] pos) (cV G ow 0 (b1 f lsetD)) :=
  (pe_LS hc (by have := hr.un; omega) hg hm hg2 hm2 ha na).impD fun σ H Q ⟨B, γ, I, q⟩ => ⟨B, γ, I, q.bind.imp fun d q v B1 H1 x1 hv => by
    obtain ⟨z, ez, q9⟩ := q.oR
    unfold lsetD at ez
    split at ez
    · rename_i ds
      obtain ⟨p, us, rfl, h1, h2⟩ := hv.items x1.s
      have hd : DnAll G.K H1 us ds := (DnAll.of_paired h2).mono x1.s
      rw [hK]
      refine ⟨p, rfl, ?_⟩
      split at ez
      · rename_i ns hi
        split at ez
        · rename_i hle
          cases ez
          rw [intsO_some hi] at hd
          rw [DnAll.ints hd] at h1
          exact .inl ⟨ns, .inl h1, hle, q9 _ B1 H1 x1 (Dn.int _)⟩
        · cases ez
      · split at ez
        · rename_i tss ht
          split at ez
          · rename_i hlt
            cases ez
            obtain ⟨ks, k1, k2, k3⟩ := tups_vals hd ht
            rw [k1] at h1
            subst k2
            exact .inr ⟨ks, .inl h1, k3, by rw [List.length_map] at hlt; exact hlt, q9 _ B1 H1 x1 (Dn.int _)⟩
          · cases ez
        · cases ez
    · cases ez⟩
end
end DL
set_option Elab.async false
set_option linter.all false
set_option maxRecDepth 100000
set_option maxHeartbeats 4000000
/-! The data layer: ranges with a step. -/
namespace DL
open PySem PySem.Spec PyProof.Rows L2

/-- i, i + c, .. : n ints -/
def stpD (i c : Int) (n : Nat) : List D := (List.range n).map fun k : Nat => PyData.int (i + (k : Nat) * c)
theorem jw_stp {K : PySem.W.Frag} {B : Hp} {i c : Int} {n : Nat} : JW K B (Itc i c n) (stpD i c n) := fun B' H' s s' j => by
  refine ⟨fun d e => ?_, fun hl => ?_⟩
  · unfold stpD at e
    rw [List.getElem?_map] at e
    by_cases hi : j < n
    · rw [List.getElem?_range hi] at e
      cases e
      refine ⟨hi, fun x H2 hx => ?_⟩
      obtain ⟨rfl, rfl⟩ := hx
      exact ⟨B', .refl s', .int _⟩
    · rw [List.getElem?_eq_none (by simpa using hi)] at e
      cases e
  · show n ≤ j
    simpa [stpD] using hl
/-- the number of turns, where the bounds are small -/
def stpN (i j c : Int) : Option Nat := if (c ≠ 0 ∧ c.natAbs < 1073741824 ∧ Builtin.Range.small i j c = true) ∧ 0 ≤ Builtin.Range.rangeSize i j c then some (Builtin.Range.rangeSize i j c).toNat else none
theorem stpN_rg {i j c : Int} {n : Nat} (h : stpN i j c = some n) : RgC i j c n := by
  unfold stpN at h
  split at h
  · rename_i hc
    cases h
    exact ⟨hc.1.1, hc.1.2.1, hc.1.2.2, by have := hc.2; omega⟩
  · cases h
def rg3 : List D → Option (List D)
  | [.int i, .int j, .int c] => (stpN i j c).map fun n => stpD i c n
  | _ => none
section
variable {X : Cx} {tg a b c : Expr} {pos p : Pos} {G : Gd} {ow : List Nat} {f g h : Env → Rs D} {fs : Env → Rs (List D)}
theorem i_rg3 (ha : PA X [a, b, c] (cA G ow 1 fs)) (hg : Gl X "range" := by rfl) (hm : X.mg "range" = none) (hs : starEach [a, b, c] X.env = (false, eval a X.env) :: starEach [b, c] X.env := by rfl) (hpl : (backTo pos (starEach [b, c] X.env)).any (·.1) = false := by rfl) :
    PI X tg (.Call (.Name "range" p) [a, b, c] [] pos) (cI G ow fun γ => (fs γ).bind fun ds => oR (rg3 ds)) := (pi_range3 hg hm ha hs hpl).impD fun σ H R ⟨B, γ, I, q⟩ => ⟨B, γ, I, q.bind.imp fun ds q vs B1 H1 x1 hvs => by
  obtain ⟨z, ez, q⟩ := q.oR
  unfold rg3 at ez
  split at ez
  · rename_i i j c
    cases hn : stpN i j c with
    | none => rw [hn] at ez; cases ez
    | some n =>
      rw [hn] at ez
      cases ez
      cases hvs with
      | cons h1 t1 => cases t1 with
        | cons h2 t2 => cases t2 with
          | cons h3 t3 =>
            cases t3
            exact ⟨i, j, c, n, by rw [DnF.int h1, DnF.int h2, DnF.int h3], stpN_rg hn, q _ B1 H1 x1 jw_stp⟩
  · cases ez⟩
/-- list(range(a, b, c)) -/
def tL3 (ta : TA) : TE := fun σ H Q => ta σ H fun vs H1 => ∃ (i j c : Int) (n : Nat), vs = [.int i, .int j, .int c] ∧ RgC i j c n ∧ n ≤ 1000000 ∧ ∀ q, H1 q = none → Q (.ref q) (upd H1 q (.lst ((List.range n).map fun k : Nat => V.int (i + (k : Nat) * c))))
theorem pe_L3 {ta : TA} {p1 p2 : Pos} (hc : X.calm = true) (hm : X.mg "list" = none) (hmr : X.mg "range" = none) (ha : PA X [a, b, c] ta) (hg : Gl X "list") (hgr : Gl X "range")
    (na : starEach [a, b, c] X.env = (false, eval a X.env) :: starEach [b, c] X.env) (hpl : (backTo p2 (starEach [b, c] X.env)).any (·.1) = false)
    (nb : starEach [.Call (.Name "range" p1) [a, b, c] [] p2] X.env = (false, eval (.Call (.Name "range" p1) [a, b, c] [] p2) X.env) :: starEach [] X.env) :
    PE X (.Call (.Name "list" p) [.Call (.Name "range" p1) [a, b, c] [] p2] [] pos) (tL3 ta) := ⟨fun pins s σ H Q I hh => by
  refine (Call_ (ld_blt I hg hm boot_list (PyProof.Rows.callWith_type1 (PyProof.Rows.args_cons ?_ nb) nb rfl)))
  refine (Call_ (ld_blt I hgr hmr boot_range (PyProof.Rows.callWith_type1 (thn (ha.run p2 pins s σ H _ I hh) fun us s1 h1 => ?_) na hpl)))
  obtain ⟨vs, H1, I1, r1, i, j, c, n, e, ⟨c0, c1, c2, c3⟩, hn, q⟩ := h1
  subst e
  cases r1 with
  | cons ra rr => cases rr with
    | cons rb rr => cases rr with
      | cons rc rr =>
        cases rr
        obtain ⟨t, rfl⟩ := ra
        obtain ⟨t', rfl⟩ := rb
        obtain ⟨t'', rfl⟩ := rc
        refine (call_range_3 c0 (PyProof.Rows.args_nil ?_) (.inl (PyProof.noPylong_small c1)))
        have I2 : Inv X pins σ H1 { s1 with heap := s1.heap.push { cls := .type "range", data := .fields #[.int i t, .int j t', .int c t''] } } := (I1.kept (t' := s1.toks) (fun b o e => Heap.get?_push_of_some _ e))
        refine call_list_range (n := n) (I2.ok.hd hc) (IsRange.new _ _ _ _ _ _ _) c2 c3 (Nat.le_trans hn (by decide)) fun h' tk acc c' hk e' hi => ?_
        have hl : acc.toList.length = n := by rw [Array.length_toList]; exact hi.1
        refine ⟨.ref _, _, I2.laid (o := .lst ((List.range n).map fun k : Nat => V.int (i + (k : Nat) * c))) hk (Nat.le_refl _) ⟨?_, acc.toList, c', ?_, ?_⟩, rfl, q _ (I2.hok.fresh (Nat.le_refl _))⟩
        · rw [List.length_map, List.length_range]; exact lim_le hn
        · have hv := vals_of_get acc.toList (fun k : Nat => V.int (i + (k : Nat) * c)) fun j u hj => hi.2 j u (by rw [← Array.getElem?_toList]; exact hj)
          rwa [hl] at hv
        · rw [Array.toArray_toList]; exact e'⟩
theorem n_listrg3 {p1 p2 : Pos} (hm : X.mg "list" = none) (hmr : X.mg "range" = none) (ha : PA X [a, b, c] (cA G ow 1 fs)) (hc : X.calm = true := by rfl) (hg : Gl X "list" := by rfl) (hgr : Gl X "range" := by rfl)
    (na : starEach [a, b, c] X.env = (false, eval a X.env) :: starEach [b, c] X.env := by rfl) (hpl : (backTo p2 (starEach [b, c] X.env)).any (·.1) = false := by rfl)
    (nb : starEach [.Call (.Name "range" p1) [a, b, c] [] p2] X.env = (false, eval (.Call (.Name "range" p1) [a, b, c] [] p2) X.env) :: starEach [] X.env := by rfl) :
    PE X (.Call (.Name "list" p) [.Call (.Name "range" p1) [a, b, c] [] p2] [] pos) (cN G ow fun γ => (fs γ).bind fun ds => oR ((rg3 ds).bind szL)) :=
  (pe_L3 hc hm hmr ha hg hgr na hpl nb).impD fun σ H Q ⟨B, γ, I, q⟩ => ⟨B, γ, I, q.bind.imp fun ds q vs B1 H1 x1 hvs => by
    obtain ⟨z, ez, q⟩ := q.oR
    unfold rg3 at ez
    split at ez
    · rename_i i j c
      cases hn : stpN i j c with
      | none => rw [hn] at ez; cases ez
      | some n =>
        rw [hn] at ez
        obtain ⟨hl, e9⟩ := szL_some (show szL (stpD i c n) = some z from ez)
        subst e9
        cases hvs with
        | cons h1 t1 => cases t1 with
          | cons h2 t2 => cases t2 with
            | cons h3 t3 =>
              cases t3
              refine ⟨i, j, c, n, by rw [DnF.int h1, DnF.int h2, DnF.int h3], stpN_rg hn, by simpa [stpD] using hl, fun r hr => q r _ B1 _ (x1.trans (.hid x1.s hr)) (x1.h.free hr) (same_none x1.s hr) upd_same ?_⟩
              have := DnAll.of_ints (K := G.K) (H := B1) ((List.range n).map fun k : Nat => i + (k : Nat) * c)
              unfold stpD
              simpa [List.map_map, Function.comp_def] using this
    · cases ez⟩
end
end DL
set_option Elab.async false
set_option linter.all false
set_option maxRecDepth 100000
set_option maxHeartbeats 4000000
/-! The data layer: xs[a::c], c > 0 and a written. -/
namespace DL
open PySem PySem.Spec PyProof.Rows L2

/-- every c-th from lo on -/
def pickL {α : Type} (lo : Option Int) (c : Int) (xs : List α) : List α :=
  let b := sliceBounds lo none (some c) xs.length
  (sliceRange b.1 b.2.1 b.2.2).filterMap fun k => xs[k]?
theorem paired_at {α β : Type} {F : α → β → Prop} : ∀ {xs : List α} {ys : List β}, Paired F xs ys → ∀ (k : Nat) (h1 : k < xs.length) (h2 : k < ys.length), F xs[k] ys[k]
  | _, _, .cons a _, 0, _, _ => a
  | _, _, .cons _ t, k + 1, h1, h2 => paired_at t k (Nat.lt_of_succ_lt_succ h1) (Nat.lt_of_succ_lt_succ h2)
theorem paired_pick {α β : Type} {F : α → β → Prop} {xs : List α} {ys : List β} (h : Paired F xs ys) : ∀ ks : List Nat, Paired F (ks.filterMap fun k => xs[k]?) (ks.filterMap fun k => ys[k]?)
  | [] => .nil
  | k :: ks => by
    have ih := paired_pick h ks
    have hl := paired_len h
    by_cases hk : k < xs.length
    · have hk2 : k < ys.length := by omega
      rw [List.filterMap_cons_some (List.getElem?_eq_getElem hk), List.filterMap_cons_some (List.getElem?_eq_getElem hk2)]
      refine .cons ?_ ih
      exact paired_at h k hk hk2
    · rw [List.filterMap_cons_none (List.getElem?_eq_none (by omega)), List.filterMap_cons_none (List.getElem?_eq_none (by omega))]
      exact ih
theorem paired_pickL {α β : Type} {F : α → β → Prop} {xs : List α} {ys : List β} (lo : Option Int) (c : Int) (h : Paired F xs ys) : Paired F (pickL lo c xs) (pickL lo c ys) := by
  unfold pickL
  rw [paired_len h]
  exact paired_pick h _
theorem pick_items (its : List Value) (lo : Option Int) (c : Int) : slicePick its.toArray lo none (some c) = (pickL lo c its).toArray := by
  unfold slicePick pickL
  rw [List.size_toArray]
  congr 1
  simp
theorem pickL_le {α : Type} (its : List Value) (lo : Option Int) (c : Int) : (pickL lo c its).length ≤ its.length := by
  have h := slicePick_size_le its.toArray lo none (some c)
  rw [pick_items, List.size_toArray, List.size_toArray] at h
  exact h
def stepLD (lo : Option Int) (c : Int) : D → Option (List D)
  | .list ds => some (pickL lo c ds)
  | _ => none
def tFix (o : Option Int) : TO := fun _ H Q => Q o H
section
variable {X : Cx} {a : Expr} {pos : Pos} {G : Gd} {ow : List Nat} {f : Env → Rs D}
theorem fix_none : PO X none (tFix none) := po_none.impD fun _ _ _ q => q
theorem fix_some {i : Int} {k : Nat} {p : Pos} : PO X (some (.Constant (.int i) k p)) (tFix (some i)) := (po_some pe_int).impD fun _ _ _ q => ⟨i, rfl, q⟩
/-- the reading -/
def tStepL (K : PySem.W.Frag) (lo : Option Int) (c : Int) (te : TE) : TE := fun σ H Q => te σ H fun x H1 => ∃ l xs, x = .ref l ∧ SqL K H1 l xs ∧ ∀ r, H1 r = none → Q (.ref r) (upd H1 r (.lst (pickL lo c xs)))
theorem pe_stepL {te : TE} {lo : Option Expr} {o : Option Int} {c : Int} {k : Nat} {p1 p2 : Pos} (ha : PE X a te) (hlo : PO X lo (tFix o)) (h0 : (some c : Option Int) ≠ some 0)
    (hsub : ∀ ov iv, subscripted (.Slice lo none (some (.Constant (.int c) k p1)) p2) false ov iv = operate [ov, iv] (getItem ov iv)) :
    PE X (.Subscript a (.Slice lo none (some (.Constant (.int c) k p1)) p2) pos) (tStepL X.K o c te) := ⟨fun pins s σ H Q I h => by
  refine Subscript_ (thn (ha.run pins s σ H _ I h) fun av t1 ⟨x, Ha, Ia, ra, l, xs, ex, hx, q⟩ => ?_)
  subst ex
  cases ra
  refine wpAny_Slice (thn (hlo.run pins t1 σ Ha (fun z Hz => z = o ∧ Hz = Ha) Ia ⟨rfl, rfl⟩) fun lv t2 ⟨lz, Hb, Ib, pl, el, eb⟩ => ?_)
  subst eb
  subst el
  refine thn (fix_none.run pins t2 σ Hb (fun z Hz => z = none ∧ Hz = Hb) Ib ⟨rfl, rfl⟩) fun uv t3 ⟨uz, Hc, Ic, pu, eu, ec⟩ => ?_
  subst ec
  subst eu
  refine thn ((fix_some (i := c)).run pins t3 σ Hc (fun z Hz => z = some c ∧ Hz = Hc) Ic ⟨rfl, rfl⟩) fun sv t4 ⟨sz, Hd, Id, ps, es, ed⟩ => ?_
  subst ed
  subst es
  have Ie : Inv X pins σ Hd { t4 with heap := t4.heap.push { cls := .type "slice", data := .fields #[lv, uv, sv] } } := Id.kept (t' := t4.toks) fun _ _ w => Heap.get?_push_of_some _ w
  obtain ⟨its, rel, ht, hz⟩ := Ie.list hx
  have hlen := rel.length
  refine tail_any (ops := [.ref l, .ref t4.heap.objs.size]) ht.isList.typeIs (PySem.slot_list_getitem.lookup) ?_ (hsub _ _)
  refine wpAny_getItem_list_slice ht.isList (Heap.IsSliceOf.new _ lv uv sv) pl pu ps h0 ?_ (by rw [List.size_toArray]; omega)
  rw [pick_items]
  have hle := pickL_le (α := Value) its lz c
  refine ⟨.ref _, _, Ie.laid (t' := t4.toks) (o := .lst (pickL lz c xs)) (fun _ _ w => Heap.get?_push_of_some _ w) (Nat.le_refl _) ?_, rfl, q _ (Ie.hok.fresh (Nat.le_refl _))⟩
  have hpr := paired_pickL lz c rel
  exact ⟨by rw [paired_len hpr]; omega, _, 0, hpr, Heap.get?_push_size _ rfl⟩⟩
theorem n_step {lo : Option Expr} {o : Option Int} {c : Int} {k : Nat} {p1 p2 : Pos} (hlo : PO X lo (tFix o)) (ha : PE X a (cV G ow 1 f)) (h0 : (some c : Option Int) ≠ some 0 := by decide) (hK : X.K = G.K := by rfl)
    (hsub : ∀ ov iv, subscripted (.Slice lo none (some (.Constant (.int c) k p1)) p2) false ov iv = operate [ov, iv] (getItem ov iv) := by with_unfolding_all (intros; rfl)) :
    PE X (.Subscript a (.Slice lo none (some (.Constant (.int c) k p1)) p2) pos) (cN G ow fun γ => (f γ).bind fun d => oR (stepLD o c d)) :=
  (pe_stepL ha hlo h0 hsub).impD fun σ H Q ⟨B, γ, I, q⟩ => ⟨B, γ, I, q.bind.imp fun d q v B1 H1 x1 hv => by
    obtain ⟨z, ez, q9⟩ := q.oR
    unfold stepLD at ez
    split at ez
    · cases ez
      obtain ⟨p, us, rfl, h1, h2⟩ := hv.items x1.s
      rw [hK]
      exact ⟨p, us, rfl, .inl h1, fun r hr => q9 r _ B1 _ (x1.trans (.hid x1.s hr)) (x1.h.free hr) (same_none x1.s hr) upd_same (DnAll.of_paired (paired_pickL o c h2))⟩
    · cases ez⟩
end
/-! `is` as a test -/
section
variable {X : Cx} {a b : Expr} {pos : Pos} {G : Gd} {ow : List Nat} {f g : Env → Rs D}
theorem t_isB (ha : PE X a (cV G ow 1 f)) (hb : PE X b (cV G ow 1 g)) : PT X (.Compare a [.Is] [b] pos) (cT G ow (b1 (b2 f g (isB false)) boolO)) := t_cmp (by
  refine ⟨?_⟩; intro B H x y d e z Q s hx hy hz q
  unfold isB at hz
  split at hz
  · cases hz
    exact ⟨_, _, hx.bool, hy.bool, q _ B H (.refl s) (by rw [Bool.false_bne]; exact .bl _)⟩
  · cases hz) op_is_bl (nomark _) ha hb
theorem t_isnotB (ha : PE X a (cV G ow 1 f)) (hb : PE X b (cV G ow 1 g)) : PT X (.Compare a [.IsNot] [b] pos) (cT G ow (b1 (b2 f g (isB true)) boolO)) := t_cmp (by
  refine ⟨?_⟩; intro B H x y d e z Q s hx hy hz q
  unfold isB at hz
  split at hz
  · cases hz
    exact ⟨_, _, hx.bool, hy.bool, q _ B H (.refl s) (by rw [Bool.true_bne]; exact .bl _)⟩
  · cases hz) op_isnot_bl (nomark _) ha hb
theorem t_isN {j : Nat} {p2 : Pos} (ha : PE X a (cV G ow 1 f)) : PT X (.Compare a [.Is] [.Constant .none j p2] pos) (cT G ow (b1 (b1 f fun d => some (.bool (isNoneD d))) boolO)) :=
  (pt_cmp (pc_isN ha) rfl).impD fun σ H Q ⟨B, γ, I, q⟩ => ⟨B, γ, I, q.bind.bind.imp fun d q v B1 H1 x1 hv => by
    obtain ⟨z, ez, q⟩ := q.oR
    obtain ⟨k, ek, q⟩ := q.oR
    cases ez
    cases ek
    exact ⟨_, rfl, by rw [dn_non (hv.flu x1.s)]; exact q B1 H1 x1⟩⟩
theorem t_notN {j : Nat} {p2 : Pos} (ha : PE X a (cV G ow 1 f)) : PT X (.Compare a [.IsNot] [.Constant .none j p2] pos) (cT G ow (b1 (b1 f fun d => some (.bool (!isNoneD d))) boolO)) :=
  (pt_cmp (pc_notN ha) rfl).impD fun σ H Q ⟨B, γ, I, q⟩ => ⟨B, γ, I, q.bind.bind.imp fun d q v B1 H1 x1 hv => by
    obtain ⟨z, ez, q⟩ := q.oR
    obtain ⟨k, ek, q⟩ := q.oR
    cases ez
    cases ek
    exact ⟨_, rfl, by rw [dn_non (hv.flu x1.s)]; exact q B1 H1 x1⟩⟩
end
end DL
set_option Elab.async false
set_option linter.all false
set_option maxRecDepth 100000
set_option maxHeartbeats 4000000
/-! The data layer: list comprehensions with two fors. -/
namespace DL
open PySem PySem.Spec PyProof.Rows L2

/-- an environment that differs from an older one in the block's names only, at a heap that has grown out of the older one -/
theorem EnvR.shift {G : Gd} {ow vs : List Nat} {B0 H0 B2 H2 B' H' : Hp} {σ0 σ' : L2.St} {γ0 γ' : Env} (I0 : EnvR G ow B0 H0 σ0 γ0) (I2 : EnvR G ow B2 H2 σ' γ') (hw : L2.wipe σ' vs = L2.wipe σ0 vs) (hx : G.x = none)
    (hvs : ∀ i ∈ vs, ow.getD i 0 = 0) (hk : ∀ i, i ∉ vs → γ'[i]? = γ0[i]?) (x : Ext B0 H0 B' H') (s : Same B2 B') : EnvR G ow B' H' σ' γ' := by
  have J := I0.mono x
  obtain ⟨own, o1, o2, o3⟩ := J.v
  refine ⟨J.s, J.e, I2.len, (fun t z => by rw [hx] at z; cases z), own, o1, o2, fun i d e => ?_⟩
  by_cases hi : i ∈ vs
  · obtain ⟨_, _, _, p3⟩ := I2.v
    obtain ⟨v, e1, e2⟩ := p3 i d e
    rw [hvs i hi] at e2 ⊢
    exact ⟨v, e1, Dn.mono s e2⟩
  · rw [hk i hi] at e
    obtain ⟨v, e1, e2⟩ := o3 i d e
    refine ⟨v, ?_, e2⟩
    rw [← wipe_out hi (σ := σ'), hw, wipe_out hi]
    exact e1
/-- what a target leaves alone -/
def Kp (vs : List Nat) (t : D → Env → Option Env) : Prop := ∀ d γ γ1, t d γ = some γ1 → ∀ i, i ∉ vs → γ1[i]? = γ[i]?
def KpL (vs : List Nat) (t : List D → Env → Option Env) : Prop := ∀ d γ γ1, t d γ = some γ1 → ∀ i, i ∉ vs → γ1[i]? = γ[i]?
theorem kp_n {vs : List Nat} {j : Nat} (h : j ∈ vs) : Kp vs (tgN j) := fun d γ γ1 e i hi => by
  cases e
  exact List.getElem?_set_ne fun z => hi (by rw [← z]; exact h)
theorem kp_nil {vs : List Nat} : KpL vs tgNil := fun d γ γ1 e i hi => by
  unfold tgNil at e
  split at e
  · cases e; rfl
  · cases e
theorem kp_cons {vs : List Nat} {t : D → Env → Option Env} {u : List D → Env → Option Env} (h1 : Kp vs t) (h2 : KpL vs u) : KpL vs (tgCons t u) := fun d γ γ1 e i hi => by
  unfold tgCons at e
  split at e
  · rename_i a r
    cases ha : t a γ with
    | none => rw [ha] at e; cases e
    | some γ2 =>
      rw [ha] at e
      rw [h2 r γ2 γ1 e i hi, h1 a γ γ2 ha i hi]
  · cases e
theorem kp_t {vs : List Nat} {n : Nat} {u : List D → Env → Option Env} (h : KpL vs u) : Kp vs (tgT n u) := fun d γ γ1 e i hi => by
  unfold tgT at e
  split at e
  · split at e
    · exact h _ γ γ1 e i hi
    · cases e
  · cases e
def compL2 (vs1 : List Nat) (t : D → Env → Option Env) (c : Env → Rs Bool) (fi1 : Env → Rs (List D)) (t1 : D → Env → Option Env) (c1 : Env → Rs Bool) (f : Env → Rs D) : List D → Env → Rs (List D)
  | [], _ => .ok []
  | d :: ds, γ => match t d γ with
    | none => .no
    | some γ1 => (noEr (c γ1)).bind fun b => if b = true then (noEr (fi1 γ1)).bind fun es => (compL t1 c1 f es (wipeE γ1 vs1)).bind fun ys => (compL2 vs1 t c fi1 t1 c1 f ds γ).bind fun zs => .ok (ys ++ zs)
      else compL2 vs1 t c fi1 t1 c1 f ds γ
theorem noEr_bd {α β : Type} {x : Rs α} {f : α → Rs β} {y : β} (h : (noEr x).bind f = .ok y) : ∃ a, x = .ok a ∧ f a = .ok y := noEr_bind h
theorem rs_bd {α β : Type} {x : Rs α} {f : α → Rs β} {y : β} (h : x.bind f = .ok y) : ∃ a, x = .ok a ∧ f a = .ok y := by
  cases x with
  | ok a => exact ⟨a, rfl, h⟩
  | er _ _ => cases h
  | no => cases h
variable {vs1 : List Nat} {t t1 : D → Env → Option Env} {c c1 : Env → Rs Bool} {fi1 : Env → Rs (List D)} {f : Env → Rs D}
theorem compL2_cons {d : D} {ds rs : List D} {γ : Env} (h : compL2 vs1 t c fi1 t1 c1 f (d :: ds) γ = .ok rs) :
    ∃ γ1, t d γ = some γ1 ∧ ∃ b, c γ1 = .ok b ∧ ((b = true ∧ ∃ es ys zs, fi1 γ1 = .ok es ∧ compL t1 c1 f es (wipeE γ1 vs1) = .ok ys ∧ compL2 vs1 t c fi1 t1 c1 f ds γ = .ok zs ∧ rs = ys ++ zs) ∨ (b = false ∧ compL2 vs1 t c fi1 t1 c1 f ds γ = .ok rs)) := by
  unfold compL2 at h
  split at h
  · cases h
  · rename_i γ1 ht
    refine ⟨γ1, ht, ?_⟩
    obtain ⟨b, e1, h⟩ := noEr_bd h
    refine ⟨b, e1, ?_⟩
    cases b with
    | false => exact .inr ⟨rfl, h⟩
    | true =>
      rw [if_pos rfl] at h
      obtain ⟨es, e2, h⟩ := noEr_bd h
      obtain ⟨ys, e3, h⟩ := rs_bd h
      obtain ⟨zs, e4, h⟩ := rs_bd h
      cases h
      exact .inl ⟨rfl, es, ys, zs, e2, e3, e4, rfl⟩
theorem compL2_er {n : Str} {fs : List (Str × D)} {γ : Env} : ∀ {ds : List D}, compL2 vs1 t c fi1 t1 c1 f ds γ ≠ .er n fs
  | [] => fun z => nomatch z
  | d :: ds => by
    unfold compL2
    cases t d γ with
    | none => exact fun z => nomatch z
    | some γ1 =>
      dsimp only
      cases hc : noEr (c γ1) with
      | er _ _ => exact absurd hc noEr_er
      | no => exact fun z => nomatch z
      | ok b =>
        cases b with
        | false => exact compL2_er
        | true =>
          show (noEr (fi1 γ1)).bind _ ≠ _
          cases hf : noEr (fi1 γ1) with
          | er _ _ => exact absurd hf noEr_er
          | no => exact fun z => nomatch z
          | ok es =>
            show (compL t1 c1 f es (wipeE γ1 vs1)).bind _ ≠ _
            cases hr : compL t1 c1 f es (wipeE γ1 vs1) with
            | er _ _ => exact absurd hr compL_er
            | no => exact fun z => nomatch z
            | ok ys =>
              show (compL2 vs1 t c fi1 t1 c1 f ds γ).bind _ ≠ _
              cases hz : compL2 vs1 t c fi1 t1 c1 f ds γ with
              | er _ _ => exact absurd hz compL2_er
              | no => exact fun z => nomatch z
              | ok zs => exact fun z => nomatch z
def compR2 (vs vs1 : List Nat) (t : D → Env → Option Env) (c : Env → Rs Bool) (fi1 : Env → Rs (List D)) (t1 : D → Env → Option Env) (c1 : Env → Rs Bool) (f : Env → Rs D) (ds : List D) (γ : Env) : Rs (List D) := (compL2 vs1 t c fi1 t1 c1 f ds (wipeE γ vs)).bind fun zs => oR (szL zs)
section
variable {X : Cx} {elt tg iter tg1 iter1 : Expr} {ifs ifs1 : List Expr} {pos : Pos} {G : Gd} {ow owL vs : List Nat} {fi : Env → Rs (List D)}
theorem lc2_imp (hg : G.x = none) (hvs : ∀ i ∈ vs, ow.getD i 0 = 0) (hk : Kp vs t) {σ : L2.St} {H : Hp} {Q : VK} (h : cN G ow (fun γ => (fi γ).bind fun ds => compR2 vs vs1 t c fi1 t1 c1 f ds γ) σ H Q) :
    tLc2 (cI G ow fi) (cG G.mute ow vs t) (cT G.mute ow c) (cI G.mute ow fi1) (cG G.mute ow vs1 t1) (cT G.mute ow c1) (cV G.mute ow 0 f) vs vs1 σ H Q := by
  obtain ⟨B, γ, I, q⟩ := h
  refine ⟨B, γ, I, q.bind.imp fun ds q J B1 H1 x1 jw => fun Da hDa => ?_⟩
  unfold compR2 at q
  cases hr : compL2 vs1 t c fi1 t1 c1 f ds (wipeE γ vs) with
  | er _ _ => exact absurd hr compL2_er
  | no => rw [hr] at q; exact q.elim
  | ok zs =>
    rw [hr] at q
    obtain ⟨zs', ez, q9⟩ := RsP.oR (show RsP G σ B H (oR (szL zs)) _ from q)
    obtain ⟨hl, e9⟩ := szL_some ez
    subst e9
    have I0 : EnvR G.mute ow B1 H1 (L2.wipe σ vs) (wipeE γ vs) := ((I.mono x1).mute).wipe hg vs
    refine ⟨fun i m H' => i ≤ ds.length ∧ m = ds.length - i ∧ ∃ B' dn rs acc, Ext B1 H1 B' H' ∧ B' Da = none ∧ H' Da = some (.lst acc) ∧ DnAll G.K B' acc dn ∧ compL2 vs1 t c fi1 t1 c1 f (ds.drop i) (wipeE γ vs) = .ok rs ∧ dn ++ rs = zs',
      ⟨ds.length, Nat.zero_le _, by omega, B1, [], zs', [], .hid x1.s hDa, same_none x1.s hDa, upd_same, .nil, hr, rfl⟩, fun i m H' hW => ?_⟩
    obtain ⟨hi, rfl, B', dn, rs, acc, xx, hb, hl', hd, hc, he⟩ := hW
    obtain ⟨j1, j2⟩ := jw B' H' xx.b xx.s i
    by_cases hlt : i < ds.length
    · obtain ⟨jg, jy⟩ := j1 _ (List.getElem?_eq_getElem hlt)
      refine .inr ⟨jg, fun H2 => ∃ B2 dn rs acc, Ext B1 H1 B2 H2 ∧ B2 Da = none ∧ H2 Da = some (.lst acc) ∧ DnAll G.K B2 acc dn ∧ compL2 vs1 t c fi1 t1 c1 f (ds.drop (i + 1)) (wipeE γ vs) = .ok rs ∧ dn ++ rs = zs', fun H2 hN => ⟨ds.length - (i + 1), by omega, by omega, rfl, hN⟩, fun x H2 hy => ?_⟩
      obtain ⟨B2, x2, hx⟩ := jy x H2 hy
      rw [List.drop_eq_getElem_cons hlt] at hc
      obtain ⟨γ1, ht, b, hcb, hrest⟩ := compL2_cons hc
      have keepD : ∀ {B3 H3 : Hp}, Ext B' H' B3 H3 → B3 Da = none ∧ H3 Da = some (.lst acc) := fun y => ⟨y.n Da hb ⟨_, hl', fun _ z => nomatch z⟩, y.h _ _ hl'⟩
      have hkeep := hk _ _ _ ht
      refine ⟨B2, wipeE γ vs, ds[i], γ1, I0.mono (xx.trans x2), hx, ht, fun σ3 hw3 I3 => ⟨hw3.trans (wipe_wipe _ _), B2, γ1, I3, ?_⟩⟩
      rw [hcb]
      intro B3 H3 x3
      rcases hrest with ⟨rfl, es, ys, zs2, hes, hys, hzs, rfl⟩ | ⟨rfl, hy2⟩
      · rw [if_pos rfl]
        refine ⟨B3, γ1, I3.mono x3, ?_⟩
        rw [hes]
        intro J1 B4 H4 x4 jw1
        obtain ⟨k1, k2⟩ := keepD ((x2.trans x3).trans x4)
        refine ⟨fun j k H' => j ≤ es.length ∧ k = es.length - j ∧ ∃ B' dn' rs' acc', Ext B1 H1 B' H' ∧ Same B4 B' ∧ B' Da = none ∧ H' Da = some (.lst acc') ∧ DnAll G.K B' acc' dn' ∧ compL t1 c1 f (es.drop j) (wipeE γ1 vs1) = .ok rs' ∧ dn' ++ (rs' ++ zs2) = zs',
          ⟨es.length, Nat.zero_le _, by omega, B4, dn, ys, acc, xx.trans ((x2.trans x3).trans x4), .refl _, k1, k2, hd.mono ((x2.trans x3).trans x4).b, hys, he⟩, fun j k H5 hW => ?_⟩
        obtain ⟨hj, rfl, B5, dn5, rs5, acc5, xx5, s5, hb5, hl5, hd5, hc5, he5⟩ := hW
        obtain ⟨i1, i2⟩ := jw1 B5 H5 s5 xx5.s j
        by_cases hlt1 : j < es.length
        · obtain ⟨ig, iy⟩ := i1 _ (List.getElem?_eq_getElem hlt1)
          refine .inr ⟨ig, fun H6 => ∃ B' dn' rs' acc', Ext B1 H1 B' H6 ∧ Same B4 B' ∧ B' Da = none ∧ H6 Da = some (.lst acc') ∧ DnAll G.K B' acc' dn' ∧ compL t1 c1 f (es.drop (j + 1)) (wipeE γ1 vs1) = .ok rs' ∧ dn' ++ (rs' ++ zs2) = zs', fun H6 hN => ⟨es.length - (j + 1), by omega, by omega, rfl, hN⟩, fun x6 H6 hy6 => ?_⟩
          obtain ⟨B6, x56, hx6⟩ := iy x6 H6 hy6
          rw [List.drop_eq_getElem_cons hlt1] at hc5
          obtain ⟨γ2, ht1, b1, hcb1, hrest1⟩ := compL_cons hc5
          have keep5 : ∀ {B7 H7 : Hp}, Ext B5 H5 B7 H7 → B7 Da = none ∧ H7 Da = some (.lst acc5) := fun y => ⟨y.n Da hb5 ⟨_, hl5, fun _ z => nomatch z⟩, y.h _ _ hl5⟩
          have I6 : EnvR G.mute ow B6 H6 σ3 γ1 := I0.shift I3 hw3 hg hvs hkeep (xx5.trans x56) (((x3.b.trans x4.b).trans s5).trans x56.b)
          refine ⟨B6, wipeE γ1 vs1, es[j], γ2, I6.wipe hg vs1, hx6, ht1, fun σ7 hw7 I7 => ⟨hw7.trans (wipe_wipe _ _), B6, γ2, I7, ?_⟩⟩
          rw [hcb1]
          intro B7 H7 x7
          rcases hrest1 with ⟨rfl, y, ys', hy1, hy2, rfl⟩ | ⟨rfl, hy2⟩
          · rw [if_pos rfl]
            refine ⟨B7, γ2, I7.mono x7, ?_⟩
            rw [hy1]
            intro v B8 H8 x8 hv
            obtain ⟨p1, p2⟩ := keep5 ((x56.trans x7).trans x8)
            refine ⟨acc5, p2, ?_, B8, dn5 ++ [y], ys', acc5 ++ [v], (xx5.trans ((x56.trans x7).trans x8)).wrh hDa p1, s5.trans ((x56.trans x7).trans x8).b, p1, upd_same, (hd5.mono ((x56.trans x7).trans x8).b).append (.cons hv .nil), hy2, ?_⟩
            · rw [hd5.length]
              refine lim_lt ?_
              have : zs'.length = dn5.length + (ys'.length + 1 + zs2.length) := by rw [← he5, List.length_append, List.length_append, List.length_cons]
              omega
            · rw [List.append_assoc]; exact he5
          · rw [if_neg (by decide)]
            obtain ⟨p1, p2⟩ := keep5 (x56.trans x7)
            exact ⟨B7, dn5, rs5, acc5, xx5.trans (x56.trans x7), s5.trans (x56.trans x7).b, p1, p2, hd5.mono (x56.trans x7).b, hy2, he5⟩
        · refine .inl ⟨i2 (by omega), ?_⟩
          rw [List.drop_eq_nil_of_le (by omega)] at hc5
          cases hc5
          exact ⟨B5, dn5, zs2, acc5, xx5, hb5, hl5, hd5, hzs, he5⟩
      · rw [if_neg (by decide)]
        obtain ⟨k1, k2⟩ := keepD (x2.trans x3)
        exact ⟨B3, dn, rs, acc, xx.trans (x2.trans x3), k1, k2, hd.mono (x2.trans x3).b, hy2, he⟩
    · refine .inl ⟨j2 (by omega), ?_⟩
      rw [List.drop_eq_nil_of_le (by omega)] at hc
      cases hc
      rw [List.append_nil] at he
      subst he
      exact q9 Da acc B' H' (x1.trans xx) (x1.h.free hDa) hb hl' hd
variable {scope : Scope} {own : List (Str × Nat)}
@[simp] abbrev nLcc (vs vs1 : List Nat) (fi : Env → Rs (List D)) (t : D → Env → Option Env) (c : Env → Rs Bool) (fi1 : Env → Rs (List D)) (t1 : D → Env → Option Env) (c1 : Env → Rs Bool) (f : Env → Rs D) : Env → Rs (List D) := fun γ => (fi γ).bind fun ds => compR2 vs vs1 t c fi1 t1 c1 f ds γ
theorem n_lcc (own : List (Str × Nat)) (vs1 : List Nat) (hN : X.N.Nodup) (hkp : Kp (own.map (·.2)) t) (hi : PI X tg iter (cI G ow fi)) (ok : BlkOk X.N X.env.scope scope own)
    (hg : ∀ (s : Shared) (H : Hp) (C : Addr) (cl : List (Str × Addr)) (fp : List Addr), PG (X.blk s H scope (compEnvC scope cl C X.env) fp) tg (cG G.mute ow (own.map (·.2)) t)) (ht : ∀ (s : Shared) (H : Hp) (C : Addr) (cl : List (Str × Addr)) (fp : List Addr), PTs (X.blk s H scope (compEnvC scope cl C X.env) fp) ifs (cT G.mute ow c))
    (hi1 : ∀ (s : Shared) (H : Hp) (C : Addr) (cl : List (Str × Addr)) (fp : List Addr), PI (X.blk s H scope (compEnvC scope cl C X.env) fp) tg1 iter1 (cI G.mute ow fi1))
    (hg1 : ∀ (s : Shared) (H : Hp) (C : Addr) (cl : List (Str × Addr)) (fp : List Addr), PG (X.blk s H scope (compEnvC scope cl C X.env) fp) tg1 (cG G.mute ow vs1 t1)) (ht1 : ∀ (s : Shared) (H : Hp) (C : Addr) (cl : List (Str × Addr)) (fp : List Addr), PTs (X.blk s H scope (compEnvC scope cl C X.env) fp) ifs1 (cT G.mute ow c1))
    (he : ∀ (s : Shared) (H : Hp) (C : Addr) (cl : List (Str × Addr)) (fp : List Addr), PE (X.blk s H scope (compEnvC scope cl C X.env) fp) elt (cV G.mute ow 0 f)) (hv : ∀ i ∈ vs1, i ∈ own.map (·.2) := by decide) (hvs : ∀ i ∈ own.map (·.2), ow.getD i 0 = 0 := by decide) (hc : X.calm = true := by rfl) (hx : G.x = none := by rfl) (hs : ∀ x, foldedSetIterable iter X.env x = pure x := by intro _; rfl) (hs1 : ∀ env x, foldedSetIterable iter1 env x = pure x := by intro _ _; rfl) :
    PE X (.ListComp elt [⟨tg, iter, ifs, 0⟩, ⟨tg1, iter1, ifs1, 0⟩] scope pos) (cN G ow (nLcc (own.map (·.2)) vs1 fi t c fi1 t1 c1 f)) := (pe_lc2 hc hN hi ok hv hg ht hi1 hg1 ht1 he hs hs1).impD fun σ H Q q => lc2_imp hx hvs hkp q
theorem s_setLcc {ow' : List Nat} {y : Str} {py spos : Pos} (i : Nat) (own : List (Str × Nat)) (vs1 : List Nat) (hN : X.N.Nodup) (hkp : Kp (own.map (·.2)) t) (hi : PI X tg iter (cI G ow fi)) (ok : BlkOk X.N X.env.scope scope own)
    (hg : ∀ (s : Shared) (H : Hp) (C : Addr) (cl : List (Str × Addr)) (fp : List Addr), PG (X.blk s H scope (compEnvC scope cl C X.env) fp) tg (cG G.mute ow (own.map (·.2)) t)) (ht : ∀ (s : Shared) (H : Hp) (C : Addr) (cl : List (Str × Addr)) (fp : List Addr), PTs (X.blk s H scope (compEnvC scope cl C X.env) fp) ifs (cT G.mute ow c))
    (hi1 : ∀ (s : Shared) (H : Hp) (C : Addr) (cl : List (Str × Addr)) (fp : List Addr), PI (X.blk s H scope (compEnvC scope cl C X.env) fp) tg1 iter1 (cI G.mute ow fi1))
    (hg1 : ∀ (s : Shared) (H : Hp) (C : Addr) (cl : List (Str × Addr)) (fp : List Addr), PG (X.blk s H scope (compEnvC scope cl C X.env) fp) tg1 (cG G.mute ow vs1 t1)) (ht1 : ∀ (s : Shared) (H : Hp) (C : Addr) (cl : List (Str × Addr)) (fp : List Addr), PTs (X.blk s H scope (compEnvC scope cl C X.env) fp) ifs1 (cT G.mute ow c1))
    (he : ∀ (s : Shared) (H : Hp) (C : Addr) (cl : List (Str × Addr)) (fp : List Addr), PE (X.blk s H scope (compEnvC scope cl C X.env) fp) elt (cV G.mute ow 0 f)) (hsw : swapsWith (.ListComp elt [⟨tg, iter, ifs, 0⟩, ⟨tg1, iter1, ifs1, 0⟩] scope pos) (some (.Name y py)) spos.line X.env = pure true)
    (hw : ow.set i 0 = ow' := by rfl) (hy : X.N[i]? = some y := by rfl) (hyl : X.env.scope.names.lookup y = some .local := by rfl) (hv : ∀ i ∈ vs1, i ∈ own.map (·.2) := by decide) (hvs : ∀ i ∈ own.map (·.2), ow.getD i 0 = 0 := by decide) (hc : X.calm = true := by rfl) (hx : G.x = none := by rfl) (hs : ∀ x, foldedSetIterable iter X.env x = pure x := by intro _; rfl) (hs1 : ∀ env x, foldedSetIterable iter1 env x = pure x := by intro _ _; rfl) :
    PS X (.Assign [.Name y py] (.ListComp elt [⟨tg, iter, ifs, 0⟩, ⟨tg1, iter1, ifs1, 0⟩] scope pos) spos) (cS G ow ow' owL fun γ => liftS (nLcc (own.map (·.2)) vs1 fi t c fi1 t1 c1 f γ) γ fun ds => .nx (γ.set i (some (.list ds)))) :=
  (ps_setLc2 hc hN hy hyl hsw hi ok hv hg ht hi1 hg1 ht1 he hs hs1).impD fun J σ H ⟨B, γ, I, q⟩ => lc2_imp hx hvs hkp ⟨B, γ, I, (q.lift I).imp fun ds q p xs B1 H1 x1 hp hb hl hd => by
    refine q (upd B1 p (.lst xs)) _ H1 (x1.b.trans (same_new hb)) ?_
    rw [← hw]
    exact (I.mono (x1.shown hp hb hl)).set i hx (.lst (.inl upd_same) (hd.mono (same_new hb)))⟩
theorem s_newLcc {ow' : List Nat} {y : Str} {py spos : Pos} (i : Nat) (own : List (Str × Nat)) (vs1 : List Nat) (hN : X.N.Nodup) (hkp : Kp (own.map (·.2)) t) (hi : PI X tg iter (cI G ow fi)) (ok : BlkOk X.N X.env.scope scope own)
    (hg : ∀ (s : Shared) (H : Hp) (C : Addr) (cl : List (Str × Addr)) (fp : List Addr), PG (X.blk s H scope (compEnvC scope cl C X.env) fp) tg (cG G.mute ow (own.map (·.2)) t)) (ht : ∀ (s : Shared) (H : Hp) (C : Addr) (cl : List (Str × Addr)) (fp : List Addr), PTs (X.blk s H scope (compEnvC scope cl C X.env) fp) ifs (cT G.mute ow c))
    (hi1 : ∀ (s : Shared) (H : Hp) (C : Addr) (cl : List (Str × Addr)) (fp : List Addr), PI (X.blk s H scope (compEnvC scope cl C X.env) fp) tg1 iter1 (cI G.mute ow fi1))
    (hg1 : ∀ (s : Shared) (H : Hp) (C : Addr) (cl : List (Str × Addr)) (fp : List Addr), PG (X.blk s H scope (compEnvC scope cl C X.env) fp) tg1 (cG G.mute ow vs1 t1)) (ht1 : ∀ (s : Shared) (H : Hp) (C : Addr) (cl : List (Str × Addr)) (fp : List Addr), PTs (X.blk s H scope (compEnvC scope cl C X.env) fp) ifs1 (cT G.mute ow c1))
    (he : ∀ (s : Shared) (H : Hp) (C : Addr) (cl : List (Str × Addr)) (fp : List Addr), PE (X.blk s H scope (compEnvC scope cl C X.env) fp) elt (cV G.mute ow 0 f)) (hsw : swapsWith (.ListComp elt [⟨tg, iter, ifs, 0⟩, ⟨tg1, iter1, ifs1, 0⟩] scope pos) (some (.Name y py)) spos.line X.env = pure true)
    (hw : ow.set i 1 = ow' := by rfl) (hlt : i < ow.length := by decide) (hy : X.N[i]? = some y := by rfl) (hyl : X.env.scope.names.lookup y = some .local := by rfl) (hv : ∀ i ∈ vs1, i ∈ own.map (·.2) := by decide) (hvs : ∀ i ∈ own.map (·.2), ow.getD i 0 = 0 := by decide) (hc : X.calm = true := by rfl) (hx : G.x = none := by rfl) (hs : ∀ x, foldedSetIterable iter X.env x = pure x := by intro _; rfl) (hs1 : ∀ env x, foldedSetIterable iter1 env x = pure x := by intro _ _; rfl) :
    PS X (.Assign [.Name y py] (.ListComp elt [⟨tg, iter, ifs, 0⟩, ⟨tg1, iter1, ifs1, 0⟩] scope pos) spos) (cS G ow ow' owL fun γ => liftS (nLcc (own.map (·.2)) vs1 fi t c fi1 t1 c1 f γ) γ fun ds => .nx (γ.set i (some (.list ds)))) :=
  (ps_setLc2 hc hN hy hyl hsw hi ok hv hg ht hi1 hg1 ht1 he hs hs1).impD fun J σ H ⟨B, γ, I, q⟩ => lc2_imp hx hvs hkp ⟨B, γ, I, (q.lift I).imp fun ds q p xs B1 H1 x1 hp hb hl hd => by
    refine q B1 _ H1 x1.b ?_
    rw [← hw]
    exact I.setN i hx hlt x1 hp hb hl hd⟩
end
end DL
set_option Elab.async false
set_option linter.all false
set_option maxRecDepth 100000
set_option maxHeartbeats 4000000
/-! The data layer: sorted(t), t a tuple of ints. -/
namespace DL
open PySem PySem.Spec PyProof.Rows L2
section
variable {P : Program} {wl : World} {Ar : Around} {Er : Value → Shared → Prop} {st : Shared}
/-- the heap behind the gathering of these -/
def hGat (h : Heap) (us : List Value) : Heap := (h.push (seqObj "list" #[] 0)).update h.objs.size (Obj.mapSeq (· ++ us.toArray))
theorem gather_tup {b : Addr} {us : List Value} {R : List Value → Shared → Prop} (ht : IsTup st.heap b us.toArray) (hz : us.length ≤ sizeLine) (hR : R us { st with heap := hGat st.heap us }) :
    wpAny (model P wl) Ar (collect (.ref b)) R Er st := by
  obtain ⟨ob, g1, g2, k, g3⟩ := id ht
  have g4 : (st.heap.push (seqObj "list" #[] 0)).get? b = some ob := Heap.get?_push_of_some _ g1
  have g5 : (Value.type "tuple" == Value.type "tuple") = true := by rfl
  have g6 : (#[] ++ us.toArray).size ≤ sizeLine + 1 := by
    rw [Array.size_append, List.size_toArray]
    show 0 + us.length ≤ _
    omega
  have g7 : ((#[] : Array Value) ++ us.toArray).toList = us := by simp
  unfold collect
  refine wpAny_bind (wpAny_runValue (codeAny_builtin entry_proto_collect' (wpAny_bind (wpAny_newList (wpAny_pure ⟨Code.quiet_builtin _ (by decide +kernel), codeAny_builtin entry_list_iadd' ?_⟩)))))
  change wpAny _ _ (Builtin.List.listExtendWith (.ref st.heap.objs.size) (.ref b) (.ref st.heap.objs.size)) _ _ { st with heap := st.heap.push (seqObj "list" #[] 0) }
  unfold Builtin.List.listExtendWith
  refine wpAny_bind (wpAny_typeOf (T := "tuple") ⟨ob, g4, g2⟩ ?_)
  rw [if_pos (by rw [g5]; simp)]
  refine wpAny_bind (listItems_at g4 g3 ?_)
  refine wpAny_bind (listItems_at (n := 0) (xs := #[]) (Heap.get?_push_size _ rfl) rfl ?_)
  rw [if_neg (by simp)]
  refine wpAny_bind (listUpdate_at (n := 0) (xs := #[]) (Heap.get?_push_size _ rfl) rfl ?_ (Nat.zero_le _) g6)
  refine wpAny_pure ?_
  change wpAny (model P wl) Ar (load st.heap.objs.size >>= fun o => match o.data with
      | .seq ys _ => pure ys.toList
      | _ => unsupported "internal:collect") R Er { st with heap := hGat st.heap us }
  have g8 : wpAny (model P wl) Ar (pure ((#[] : Array Value) ++ us.toArray).toList) R Er { st with heap := hGat st.heap us } := by
    rw [g7]
    exact wpAny_pure hR
  exact wpAny_bind (wpAny_load (get?_update_seq (Heap.get?_push_size _ rfl) _) g8)
theorem sorted_tupO {b : Addr} {us : List Value} {lv : Value → Value → Bool} {R : Value → Shared → Prop} (O : SrtO.Swo lv) (ht : IsTup st.heap b us.toArray) (hz : us.length ≤ sizeLine)
    (hS : 2 ≤ us.length → ∀ (g : Heap) (a : Addr), SrtO.SortableO P wl Ar.in1.in1 { st with heap := g } a us lv)
    (hR : ∀ os : List Value, SrtO.Srtd lv os → SrtO.Stb lv os us → R (.ref (st.heap.objs.size + 1)) { st with heap := sortedAll st.heap us os.toArray }) :
    wpAny (model P wl) Ar (call (.builtin "sorted") [.ref b]) R Er st := by
  have k1 : (hGat st.heap us).objs.size = st.heap.objs.size + 1 := by
    rw [hGat, Heap.size_update, size_push']
  have k2 : ((hGat st.heap us).push (seqObj "list" us.toArray 0)).get? (st.heap.objs.size + 1) = some (seqObj "list" us.toArray 0) := by
    exact k1 ▸ Heap.get?_push_size _ rfl
  refine Calls.call_function_entry kind_sorted plain_sorted entry_sorted (args_sorted1 _) (wpAny_bind (m := checkCount "sorted" 1 1 _) (wpAny_pure (wpAny_bind (gather_tup ht hz (wpAny_bind (wpAny_newList ?_ hz))))))
  change wpAny _ _ _ _ _ { st with heap := (hGat st.heap us).push (seqObj "list" us.toArray 0) }
  rw [k1]
  refine wpAny_bind (wpAny_holding (wpAny_call_entry slot_list_sort ⟨_, k2, rfl⟩ entry_list_sort ?_ (args_list_sort _)))
  refine SrtO.list_sort_ord O k2 hz (fun h2 => hS h2 _ _) fun os p1 p2 => ⟨_, rfl, ?_⟩
  exact wpAny_pure ⟨_, rfl, hR os p1 p2⟩
end
section
variable {X : Cx}
def rSortedTI (K : PySem.W.Frag) : List V → Hp → VK → Prop := fun vs H Q => ∃ (b : Addr) (ns : List Int), vs = [V.ref b] ∧ SqT K H b (ns.map V.int) ∧ ∀ (ms : List Int) (r : Addr), ms.Perm ns → ms.Pairwise (· ≤ ·) → H r = none → Q (.ref r) (upd H r (.lst (ms.map V.int)))
theorem cr_sortedTI : CallR X (.builtin "sorted") (rSortedTI X.K) := fun pins s σ H vs us Q I rel ⟨b, ns, ev, hb, q⟩ => by
  subst ev
  obtain ⟨its, rv, ht, hz⟩ := I.tuple hb
  have hi := rv.ints
  rw [Vals.ref1 rel]
  refine sorted_tupO SrtO.swo_int ht (by rw [← rv.length]; exact hz) (fun h2 _ _ => SrtO.ints_sortable hi h2) fun os p1 p2 => ?_
  obtain ⟨k1, k2, k3⟩ := SrtO.ints_out hi p1 p2
  obtain ⟨ep, hat⟩ := PyProof.Rows.sortedAll_at s.heap its os.toArray
  have hle : ((os.map SrtO.iv).map V.int).length ≤ sizeLine := by
    rw [List.length_map] at hz ⊢
    rw [k2.length_eq]
    exact hz
  refine ⟨.ref _, upd H (s.heap.objs.size + 1) (.lst ((os.map SrtO.iv).map V.int)), ?_, rfl, q _ _ k2 k3 (I.hok.fresh (Nat.le_succ _))⟩
  exact I.laid (t' := s.toks) (fun _ _ => PyProof.Rows.sortedAll_old) (Nat.le_succ _) ⟨hle, os, ep, vals_of_ints k1, hat⟩
def rSortedA (K : PySem.W.Frag) : List V → Hp → VK → Prop := fun vs H Q => rSortedI K vs H Q ∨ rSortedTI K vs H Q
theorem cr_sortedA : CallR X (.builtin "sorted") (rSortedA X.K) := fun pins s σ H vs us Q I rel h => by
  rcases h with h | h
  · exact cr_sortedI pins s σ H vs us Q I rel h
  · exact cr_sortedTI pins s σ H vs us Q I rel h
end
/-- sorted(x): ints of a list or of a tuple -/
def srtA : List D → Option (List D)
  | [.list ds] => (intsO ds).map fun ns => (srtI ns).map PyData.int
  | [.tuple ds] => (intsO ds).map fun ns => (srtI ns).map PyData.int
  | _ => none
section
variable {X : Cx} {e : Expr} {es : List Expr} {p pos : Pos} {G : Gd} {ow : List Nat} {fs : Env → Rs (List D)}
theorem n_sortedA (hm : X.mg "sorted" = none) (ha : PA X (e :: es) (cA G ow 1 fs)) (hg : Gl X "sorted" := by rfl) (he : starEach (e :: es) X.env = (false, eval e X.env) :: starEach es X.env := by rfl) (hpl : (backTo pos (starEach es X.env)).any (·.1) = false := by rfl) (hK : X.K = G.K := by rfl) :
    PE X (.Call (.Name "sorted" p) (e :: es) [] pos) (cN G ow fun γ => (fs γ).bind fun ds => oR (srtA ds)) :=
  (pe_callB (hK ▸ cr_sortedA) hg hm (by decide +kernel) ha (by decide) (by decide) he hpl).impD fun σ H Q ⟨B, γ, I, q⟩ => ⟨B, γ, I, q.bind.imp fun ds q vs B1 H1 x1 hvs => by
    obtain ⟨z, ez, q⟩ := q.oR
    have fin : ∀ ns : List Int, z = (srtI ns).map PyData.int → ∀ (ns' : List Int) (r : Addr), ns'.Perm ns → ns'.Pairwise (· ≤ ·) → H1 r = none → Q (.ref r) (upd H1 r (.lst (ns'.map V.int))) := fun ns e ns' r hp hs hr => by
      have e9 : ns' = srtI ns := sorted_uniq (hp.trans (srtI_perm ns).symm) hs (srtI_sorted ns)
      rw [e9]
      subst e
      exact q r _ B1 _ (x1.trans (.hid x1.s hr)) (x1.h.free hr) (same_none x1.s hr) upd_same (DnAll.of_ints _)
    unfold srtA at ez
    split at ez
    · rename_i es'
      cases hi : intsO es' with
      | none => rw [hi] at ez; cases ez
      | some ns =>
        rw [hi] at ez
        cases ez
        cases hvs with
        | cons h t =>
          cases t
          obtain ⟨p', us, rfl, h1, h2⟩ := DnF.items x1.s h
          rw [ints_of h2 hi] at h1
          exact .inl ⟨p', ns, rfl, .inl h1, fin ns rfl⟩
    · rename_i es'
      cases hi : intsO es' with
      | none => rw [hi] at ez; cases ez
      | some ns =>
        rw [hi] at ez
        cases ez
        cases hvs with
        | cons h t =>
          cases t
          obtain ⟨p', us, rfl, h1, h2⟩ := DnF.tups x1.s h
          rw [intsO_some hi] at h2
          rw [DnAll.ints h2] at h1
          exact .inr ⟨p', ns, rfl, h1, fin ns rfl⟩
    · cases ez⟩
end
end DL
set_option Elab.async false
set_option linter.all false
set_option maxRecDepth 100000
set_option maxHeartbeats 4000000
/-! The data layer: dicts of a def's own. -/
namespace DL
open PySem PySem.Spec PyProof.Rows L2

section
variable {G : Gd} {ow : List Nat} {B H B' H' : Hp} {σ : L2.St} {γ : Env}
/-- a new object of its own in slot i -/
theorem EnvR.setO (I : EnvR G ow B H σ γ) (i : Nat) (hx : G.x = none) (hi : i < ow.length) {k : Nat} {p : Addr} {d : D} (x : Ext B H B' H') (hp : H p = none) (hb : B' p = none) (hl : NT H' p) (h : SR G.K (fun a => a = p) B' H' k (.ref p) d) :
    EnvR G (ow.set i k) B' H' (σ.set i (some (.ref p))) (γ.set i (some d)) := by
  have I' := I.mono x
  obtain ⟨own0, g1, g2, g3⟩ := I.v
  have hG : G.H p = none := by
    cases q : G.H p with
    | none => rfl
    | some o => rw [I.e.h p o q] at hp; cases hp
  have hne : ∀ j a, own0 j a → a ≠ p := fun j a hj e => by
    subst e
    exact absurd hp (g1 j a hj).2.2.ne
  refine ⟨I'.s, I'.e, by rw [List.length_set, List.length_set, I'.len], (fun t z => by rw [hx] at z; cases z), fun j a => if j = i then a = p else own0 j a, fun j a hj => ?_, fun j l a hj hk => ?_, fun j e q => ?_⟩
  · dsimp only at hj
    by_cases z : j = i
    · rw [if_pos z] at hj
      subst hj
      exact ⟨hb, hG, hl⟩
    · rw [if_neg z] at hj
      obtain ⟨c1, c2, c3⟩ := g1 j a hj
      exact ⟨x.n a c1 c3, c2, c3.mono x.h⟩
  · dsimp only at hj hk
    by_cases z : j = i <;> by_cases w : l = i
    · rw [z, w]
    · rw [if_pos z] at hj
      rw [if_neg w] at hk
      exact absurd hj (hne l a hk)
    · rw [if_neg z] at hj
      rw [if_pos w] at hk
      exact absurd hk (hne j a hj)
    · rw [if_neg z] at hj
      rw [if_neg w] at hk
      exact g2 j l a hj hk
  · by_cases z : j = i
    · subst z
      have hj : j < γ.length := by
        by_cases y : j < γ.length
        · exact y
        · rw [List.getElem?_eq_none (by rw [List.length_set]; omega)] at q; cases q
      rw [List.getElem?_set_self hj] at q
      cases q
      refine ⟨.ref p, List.getElem?_set_self (by rw [← I.len]; exact hj), ?_⟩
      rw [ow_set_self _ _ _ (.inl hi)]
      exact h.monoB (.refl _) fun a e => by dsimp only; rw [if_pos rfl]; exact e
    · rw [List.getElem?_set_ne (Ne.symm z)] at q
      obtain ⟨v, e1, r⟩ := g3 j e q
      refine ⟨v, by rw [List.getElem?_set_ne (Ne.symm z)]; exact e1, ?_⟩
      rw [ow_set_ne _ _ z]
      exact (r.mono x).monoB (.refl _) fun a ha => by dsimp only; rw [if_neg z]; exact ha
/-- the object of slot i, and writing it -/
theorem EnvR.wrO (I : EnvR G ow B H σ γ) {i k : Nat} {d : D} (hx : G.x = none) (hk : ow.getD i 0 = k) (h34 : k = 3 ∨ k = 4) (hg : γ[i]? = some (some d)) :
    ∃ p, σ[i]? = some (some (.ref p)) ∧ B p = none ∧ SR G.K (fun a => a = p) B H k (.ref p) d ∧ ∀ o d', SR G.K (fun a => a = p) B (upd H p o) k (.ref p) d' → EnvR G ow B (upd H p o) σ (γ.set i (some d')) := by
  obtain ⟨own, h1, h2, h3⟩ := I.v
  obtain ⟨v, e, r⟩ := h3 i _ hg
  rw [hk] at r
  obtain ⟨p, rfl, hop, r2⟩ : ∃ p, v = .ref p ∧ own i p ∧ SR G.K (fun a => a = p) B H k (.ref p) d := by
    rcases h34 with rfl | rfl
    · obtain ⟨p, kvs, es, a1, a2, a3, a4, a5⟩ := r
      exact ⟨p, a1, a3, p, kvs, es, rfl, a2, rfl, a4, a5⟩
    · obtain ⟨p, kvs, es, a1, a2, a3, a4, a5⟩ := r
      exact ⟨p, a1, a3, p, kvs, es, rfl, a2, rfl, a4, a5⟩
  obtain ⟨b1, b2, b3⟩ := h1 i p hop
  refine ⟨p, e, b1, r2, fun o d' hn => ?_⟩
  have sB : Same B (upd H p o) := fun a u z => by
    have : a ≠ p := fun y => by subst y; rw [b1] at z; cases z
    rw [upd_ne this]; exact I.s a u z
  refine ⟨sB, ⟨I.e.b, fun a u z => ?_, sB, I.e.n⟩, by rw [List.length_set, I.len], (fun t z => by rw [hx] at z; cases z), own, fun j a hj => ?_, h2, fun j e' q => ?_⟩
  · have : a ≠ p := fun y => by subst y; rw [b2] at z; cases z
    rw [upd_ne this]; exact I.e.h a u z
  · obtain ⟨c1, c2, c3⟩ := h1 j a hj
    refine ⟨c1, c2, ?_⟩
    by_cases z : a = p
    · subst z
      rcases h34 with rfl | rfl
      · obtain ⟨p', kvs', es', z1, z2, z3, z4, z5⟩ := hn
        cases z1
        exact ⟨_, z4, fun _ w => nomatch w⟩
      · obtain ⟨p', kvs', es', z1, z2, z3, z4, z5⟩ := hn
        cases z1
        exact ⟨_, z4, fun _ w => nomatch w⟩
    · exact c3.upd z
  · by_cases z : j = i
    · subst z
      have hj : j < γ.length := I.lt hg
      rw [List.getElem?_set_self hj] at q
      cases q
      refine ⟨_, e, ?_⟩
      rw [hk]
      exact hn.monoB (.refl _) fun a ea => by rw [ea]; exact hop
    · rw [List.getElem?_set_ne (Ne.symm z)] at q
      obtain ⟨w, e1, r⟩ := h3 j e' q
      refine ⟨w, e1, r.keepH fun a ha => upd_ne fun y => by subst y; exact z (h2 j i _ ha hop)⟩
end
/-! keys as data -/
def keysO : List D → Option (List Key)
  | [] => some []
  | d :: ds => (keyO d).bind fun k => (keysO ds).map fun ks => k :: ks
def keyT : D → Option (List Key)
  | .tuple ds => keysO ds
  | _ => none
def es3 : List (D × D) → Option (List (Key × D))
  | [] => some []
  | (k, d) :: r => (keyO k).bind fun k => (es3 r).map fun l => (k, d) :: l
def es4 : List (D × D) → Option (List (List Key × D))
  | [] => some []
  | (k, d) :: r => (keyT k).bind fun k => (es4 r).map fun l => (k, d) :: l
def d3 : D → Option (List (Key × D))
  | .dict es => es3 es
  | _ => none
def d4 : D → Option (List (List Key × D))
  | .dict es => es4 es
  | _ => none
def mk3 (l : List (Key × D)) : D := .dict (l.map fun q => (kD q.1, q.2))
def mk4 (l : List (List Key × D)) : D := .dict (l.map fun q => (.tuple (q.1.map kD), q.2))
theorem keyO_kD (k : Key) : keyO (kD k) = some k := by cases k <;> rfl
theorem keysO_kD : ∀ ks : List Key, keysO (ks.map kD) = some ks
  | [] => rfl
  | k :: ks => by
    show (keyO (kD k)).bind _ = _
    rw [keyO_kD]
    show (keysO (ks.map kD)).map _ = _
    rw [keysO_kD ks]
    rfl
theorem es3_mk : ∀ l : List (Key × D), es3 (l.map fun q => (kD q.1, q.2)) = some l
  | [] => rfl
  | (k, d) :: r => by
    show (keyO (kD k)).bind _ = _
    rw [keyO_kD]
    show (es3 (r.map _)).map _ = _
    rw [es3_mk r]
    rfl
theorem es4_mk : ∀ l : List (List Key × D), es4 (l.map fun q => (.tuple (q.1.map kD), q.2)) = some l
  | [] => rfl
  | (k, d) :: r => by
    show (keysO (k.map kD)).bind _ = _
    rw [keysO_kD]
    show (es4 (r.map _)).map _ = _
    rw [es4_mk r]
    rfl
theorem kv_rel {K : PySem.W.Frag} {H : Hp} : ∀ {kvs : List (Key × V)} {es : List (D × D)}, DnKv K H kvs es → ∃ l : List (Key × D), es = l.map (fun q => (kD q.1, q.2)) ∧ Paired (fun (p : Key × V) (q : Key × D) => p.1 = q.1 ∧ Dn K H p.2 q.2) kvs l
  | _, _, .nil => ⟨[], rfl, .nil⟩
  | _, _, .cons (k := k) (d := d) a t => by
    obtain ⟨l, e, h⟩ := kv_rel t
    exact ⟨(k, d) :: l, by rw [e]; rfl, .cons ⟨rfl, a⟩ h⟩
theorem kt_rel {K : PySem.W.Frag} {H : Hp} : ∀ {kvs : List (List Key × V)} {es : List (D × D)}, DnKt K H kvs es → ∃ l : List (List Key × D), es = l.map (fun q => (.tuple (q.1.map kD), q.2)) ∧ Paired (fun (p : List Key × V) (q : List Key × D) => p.1 = q.1 ∧ Dn K H p.2 q.2) kvs l
  | _, _, .nil => ⟨[], rfl, .nil⟩
  | _, _, .cons (k := k) (d := d) a t => by
    obtain ⟨l, e, h⟩ := kt_rel t
    exact ⟨(k, d) :: l, by rw [e]; rfl, .cons ⟨rfl, a⟩ h⟩
theorem kv_of {K : PySem.W.Frag} {H : Hp} : ∀ {kvs : List (Key × V)} {l : List (Key × D)}, Paired (fun (p : Key × V) (q : Key × D) => p.1 = q.1 ∧ Dn K H p.2 q.2) kvs l → DnKv K H kvs (l.map fun q => (kD q.1, q.2))
  | _, _, .nil => .nil
  | (k, v) :: _, (k', d) :: _, .cons a t => by
    obtain ⟨rfl, b⟩ := (show k = k' ∧ Dn K H v d from a)
    exact .cons b (kv_of t)
theorem kt_of {K : PySem.W.Frag} {H : Hp} : ∀ {kvs : List (List Key × V)} {l : List (List Key × D)}, Paired (fun (p : List Key × V) (q : List Key × D) => p.1 = q.1 ∧ Dn K H p.2 q.2) kvs l → DnKt K H kvs (l.map fun q => (.tuple (q.1.map kD), q.2))
  | _, _, .nil => .nil
  | (k, v) :: _, (k', d) :: _, .cons a t => by
    obtain ⟨rfl, b⟩ := (show k = k' ∧ Dn K H v d from a)
    exact .cons b (kt_of t)
/-! storing -/
def putG {κ : Type} [DecidableEq κ] (es : List (κ × D)) (k : κ) (d : D) : List (κ × D) :=
  if (es.any fun kv => decide (kv.1 = k)) = true then es.map (fun kv => if kv.1 = k then (kv.1, d) else kv) else es ++ [(k, d)]
abbrev PrR {κ : Type} (K : PySem.W.Frag) (B : Hp) : List (κ × V) → List (κ × D) → Prop := Paired fun (p : κ × V) (q : κ × D) => p.1 = q.1 ∧ Dn K B p.2 q.2
theorem pr_mono {κ : Type} {K : PySem.W.Frag} {B B' : Hp} (s : Same B B') {kvs : List (κ × V)} {es : List (κ × D)} (h : PrR K B kvs es) : PrR K B' kvs es := Paired.mapP h fun _ _ ⟨a, b⟩ => ⟨a, b.mono s⟩
theorem pr_any {κ : Type} [DecidableEq κ] {K : PySem.W.Frag} {B : Hp} {kvs : List (κ × V)} {es : List (κ × D)} (k : κ) (h : PrR K B kvs es) : (kvs.any fun kv => decide (kv.1 = k)) = es.any fun kv => decide (kv.1 = k) := by
  induction h with
  | nil => rfl
  | cons a t ih => rw [List.any_cons, List.any_cons, ih, a.1]
theorem pr_put {κ : Type} [DecidableEq κ] {K : PySem.W.Frag} {B : Hp} {kvs : List (κ × V)} {es : List (κ × D)} {k : κ} {v : V} {d : D} (h : PrR K B kvs es) (hv : Dn K B v d) : PrR K B (putK kvs k v) (putG es k d) := by
  have key : PrR K B (kvs.map fun kv => if kv.1 = k then (kv.1, v) else kv) (es.map fun kv => if kv.1 = k then (kv.1, d) else kv) := by
    induction h with
    | nil => exact .nil
    | cons a t ih =>
      refine .cons ?_ ih
      dsimp only
      rw [a.1]
      split
      · exact ⟨rfl, hv⟩
      · exact a
  unfold putK putG
  rw [pr_any k h]
  split
  · exact key
  · exact paired_append h (.cons ⟨rfl, hv⟩ .nil)
def valG {κ : Type} [DecidableEq κ] (es : List (κ × D)) (k : κ) : Option D := (es.find? fun kv => decide (kv.1 = k)).map (·.2)
theorem pr_val {κ : Type} [DecidableEq κ] {K : PySem.W.Frag} {B : Hp} {kvs : List (κ × V)} {es : List (κ × D)} (k : κ) (h : PrR K B kvs es) : match valG es k with
    | none => valV kvs k = none
    | some d => ∃ v, valV kvs k = some v ∧ Dn K B v d := by
  induction h with
  | nil => rfl
  | cons a t ih =>
    rename_i p q xs ys
    unfold valG valV
    by_cases e : q.1 = k
    · have e2 : p.1 = k := a.1.trans e
      simp only [List.find?_cons, e, e2, decide_true, Option.map_some]
      exact ⟨_, rfl, a.2⟩
    · have e2 : ¬ p.1 = k := fun z => e (a.1.symm.trans z)
      simp only [List.find?_cons, e, e2, decide_false]
      exact ih
def put3D (dd kk d : D) : Option D := (d3 dd).bind fun l => (keyO kk).bind fun k => if l.length < LIM then some (mk3 (putG l k d)) else none
def put4D (dd kk d : D) : Option D := (d4 dd).bind fun l => (keyT kk).bind fun k => if l.length < LIM then some (mk4 (putG l k d)) else none
@[simp] abbrev dputS (P : D → D → D → Option D) (i : Nat) (fe fi : Env → Rs D) : Env → Out := fun γ => liftS ((fe γ).bind fun d => (gE γ i).bind fun dd => (fi γ).bind fun kk => oR (P dd kk d)) γ fun e => .nx (γ.set i (some e))
theorem keysO_kV {K : PySem.W.Frag} {B : Hp} : ∀ {xs : List V} {ds : List D} {ks : List Key}, DnAll K B xs ds → keysO ds = some ks → xs = ks.map kV
  | _, _, _, .nil, h => by cases h; rfl
  | _, _, ks, .cons (v := v) (d := d) (ds := ds) a t, h => by
    unfold keysO at h
    cases hk : keyO d with
    | none => rw [hk] at h; cases h
    | some k =>
      rw [hk] at h
      replace h : (keysO ds).map _ = _ := h
      cases hr : keysO ds with
      | none => rw [hr] at h; cases h
      | some l =>
        rw [hr] at h
        cases h
        rw [keysO_kV t hr, keyO_kV (H := B) (B := B) (K := K) hk a]
        rfl
section
variable {X : Cx} {e ix : Expr} {x : Str} {p1 p2 pos : Pos} {G : Gd} {ow owL : List Nat} {fe fi : Env → Rs D}
theorem s_dnew3 {ow' : List Nat} {p' : Pos} (i : Nat) (hN : X.N.Nodup) (hw : ow.set i 3 = ow' := by rfl) (hlt : i < ow.length := by decide) (hi : X.N[i]? = some x := by rfl) (hx : Loc X.env.scope x := by first | exact .inl rfl | exact .inr rfl) (hg : G.x = none := by rfl)
    (hs : swapsWith (.Dict [] [] pos) (some (.Name x p')) p1.line X.env = pure false := by rfl) (hf : X.fn x = true ∨ X.env.scope.names.lookup x = some .local := by first | exact .inl rfl | exact .inr rfl | assumption) :
    PS X (.Assign [.Name x p'] (.Dict [] [] pos) p1) (cS G ow ow' owL fun γ => .nx (γ.set i (some (.dict [])))) :=
  (ps_set hN hi hx pe_dnewK hs hf).impD fun J σ H ⟨B, γ, I, q⟩ => fun p hp => by
    refine q B _ _ (.refl _) ?_
    rw [← hw]
    exact I.setO i hg hlt (.hid I.s hp) hp (same_none I.s hp) ⟨_, upd_same, fun _ z => nomatch z⟩ ⟨p, [], [], rfl, rfl, rfl, upd_same, .nil⟩
theorem s_dnew4 {ow' : List Nat} {p' : Pos} (i : Nat) (hN : X.N.Nodup) (hw : ow.set i 4 = ow' := by rfl) (hlt : i < ow.length := by decide) (hi : X.N[i]? = some x := by rfl) (hx : Loc X.env.scope x := by first | exact .inl rfl | exact .inr rfl) (hg : G.x = none := by rfl)
    (hs : swapsWith (.Dict [] [] pos) (some (.Name x p')) p1.line X.env = pure false := by rfl) (hf : X.fn x = true ∨ X.env.scope.names.lookup x = some .local := by first | exact .inl rfl | exact .inr rfl | assumption) :
    PS X (.Assign [.Name x p'] (.Dict [] [] pos) p1) (cS G ow ow' owL fun γ => .nx (γ.set i (some (.dict [])))) :=
  (ps_set hN hi hx pe_dnewT hs hf).impD fun J σ H ⟨B, γ, I, q⟩ => fun p hp => by
    refine q B _ _ (.refl _) ?_
    rw [← hw]
    exact I.setO i hg hlt (.hid I.s hp) hp (same_none I.s hp) ⟨_, upd_same, fun _ z => nomatch z⟩ ⟨p, [], [], rfl, rfl, rfl, upd_same, .nil⟩
theorem s_dput3 {n : Nat} (i : Nat) (hr : Room n X.A) (he : PE X e (cV G ow 0 fe)) (hix : PE X ix (cV G ow 0 fi)) (hk : ow.getD i 0 = 3 := by rfl) (hi : X.N[i]? = some x := by rfl) (hv : Vis X.env.scope x := by first | exact Or.inl rfl | exact Or.inr (Or.inl rfl) | exact Or.inr (Or.inr rfl)) (hg : G.x = none := by rfl)
    (hd : (x == ("__debug__" : Str)) = false := by decide) (hcd : (x == ("__classdict__" : Str)) = false := by decide) (hs : swapsWith e (some (.Subscript (.Name x p1) ix p2)) pos.line X.env = pure false := by rfl) :
    PS X (.Assign [.Subscript (.Name x p1) ix p2] e pos) (cS G ow ow owL (dputS put3D i fe fi)) :=
  (ps_dput (by have := hr.un; omega) (pe_var hi hv hd hcd) hix he hs).impD fun J σ H ⟨B, γ, I, q⟩ => ⟨B, γ, I, (OutP.lift I q).bind.imp fun d q v B1 H1 x1 hv => by
    obtain ⟨dd, hgi, q⟩ := q.bind.gE
    obtain ⟨p, e1, _⟩ := (I.mono x1).wrO hg hk (.inl rfl) hgi
    refine ⟨.ref p, e1, B1, γ, I.mono x1, q.bind.mono x1 fun kk q u B2 H2 x2 hu => ?_⟩
    obtain ⟨z, ez, q⟩ := q.oR
    obtain ⟨p', e1', hb, sr, wr⟩ := (I.mono (x1.trans x2)).wrO hg hk (.inl rfl) hgi
    rw [e1] at e1'
    cases e1'
    obtain ⟨_, kvs, es, a1, a2, a3, a4, a5⟩ := sr
    cases a1
    subst a2
    obtain ⟨l, e2, rel⟩ := kv_rel a5
    subst e2
    unfold put3D at ez
    replace ez : (es3 _).bind _ = _ := ez
    rw [es3_mk] at ez
    replace ez : (keyO kk).bind _ = _ := ez
    cases hkk : keyO kk with
    | none => rw [hkk] at ez; cases ez
    | some k =>
      rw [hkk] at ez
      replace ez : (if _ then _ else _) = _ := ez
      split at ez
      · rename_i hlen
        cases ez
        rw [keyO_kV hkk hu]
        have hl : kvs.length = l.length := Paired.length rel
        exact ⟨p, _, rfl, DPut.k a4 (by rw [hl]; exact lim_lt hlen), q B2 σ _ (x1.trans x2).b (wr _ _ ⟨p, _, _, rfl, rfl, rfl, upd_same, kv_of (pr_put rel (Dn.mono x2.b hv))⟩)⟩
      · cases ez⟩
theorem s_dput4 {n : Nat} (i : Nat) (hr : Room n X.A) (he : PE X e (cV G ow 0 fe)) (hix : PE X ix (cV G ow 0 fi)) (hk : ow.getD i 0 = 4 := by rfl) (hi : X.N[i]? = some x := by rfl) (hv : Vis X.env.scope x := by first | exact Or.inl rfl | exact Or.inr (Or.inl rfl) | exact Or.inr (Or.inr rfl)) (hg : G.x = none := by rfl)
    (hd : (x == ("__debug__" : Str)) = false := by decide) (hcd : (x == ("__classdict__" : Str)) = false := by decide) (hs : swapsWith e (some (.Subscript (.Name x p1) ix p2)) pos.line X.env = pure false := by rfl) :
    PS X (.Assign [.Subscript (.Name x p1) ix p2] e pos) (cS G ow ow owL (dputS put4D i fe fi)) :=
  (ps_dput (by have := hr.un; omega) (pe_var hi hv hd hcd) hix he hs).impD fun J σ H ⟨B, γ, I, q⟩ => ⟨B, γ, I, (OutP.lift I q).bind.imp fun d q v B1 H1 x1 hv => by
    obtain ⟨dd, hgi, q⟩ := q.bind.gE
    obtain ⟨p, e1, _⟩ := (I.mono x1).wrO hg hk (.inr rfl) hgi
    refine ⟨.ref p, e1, B1, γ, I.mono x1, q.bind.mono x1 fun kk q u B2 H2 x2 hu => ?_⟩
    obtain ⟨z, ez, q9⟩ := q.oR
    obtain ⟨p', e1', hb, sr, wr⟩ := (I.mono (x1.trans x2)).wrO hg hk (.inr rfl) hgi
    rw [e1] at e1'
    cases e1'
    obtain ⟨_, kvs, es, a1, a2, a3, a4, a5⟩ := sr
    cases a1
    subst a2
    obtain ⟨l, e2, rel⟩ := kt_rel a5
    subst e2
    unfold put4D at ez
    replace ez : (es4 _).bind _ = _ := ez
    rw [es4_mk] at ez
    replace ez : (keyT kk).bind _ = _ := ez
    cases hkk : keyT kk with
    | none => rw [hkk] at ez; cases ez
    | some k =>
      rw [hkk] at ez
      replace ez : (if _ then _ else _) = _ := ez
      split at ez
      · rename_i hlen
        cases ez
        unfold keyT at hkk
        split at hkk
        · rename_i ks
          have hu' : Dn G.K B2 u (.tuple ks) := hu
          cases hu' with
          | tup ha hda =>
            rw [keysO_kV hda hkk] at ha
            have hl : kvs.length = l.length := Paired.length rel
            exact ⟨p, _, rfl, DPut.t a4 (x2.s _ _ ha) (by rw [hl]; exact lim_lt hlen), q9 B2 σ _ (x1.trans x2).b (wr _ _ ⟨p, _, _, rfl, rfl, rfl, upd_same, kt_of (pr_put rel (Dn.mono x2.b hv))⟩)⟩
        · cases hkk
      · cases ez⟩
end
/-! reading -/
def in3D (neg : Bool) (dd kk : D) : Option D := (d3 dd).bind fun l => (keyO kk).map fun k => .bool (neg != (valG l k).isSome)
def in4D (neg : Bool) (dd kk : D) : Option D := (d4 dd).bind fun l => (keyT kk).map fun k => .bool (neg != (valG l k).isSome)
def get3D (dd kk : D) : Option D := (d3 dd).bind fun l => (keyO kk).bind fun k => valG l k
def get4D (dd kk : D) : Option D := (d4 dd).bind fun l => (keyT kk).bind fun k => valG l k
/-- what the slot's object answers at a key -/
theorem ask3 {G : Gd} {ow : List Nat} {B H : Hp} {σ : L2.St} {γ : Env} (I : EnvR G ow B H σ γ) {i : Nat} {dd kk : D} {u : V} (hx : G.x = none) (hk : ow.getD i 0 = 3) (hg : γ[i]? = some (some dd)) {l : List (Key × D)} {k : Key} (h3 : d3 dd = some l) (hkk : keyO kk = some k) (hu : Dn G.K B u kk) :
    ∃ p o, σ[i]? = some (some (.ref p)) ∧ DGet H p u o ∧ match valG l k with
      | none => o = none
      | some d => ∃ v, o = some v ∧ Dn G.K B v d := by
  obtain ⟨p, e1, hb, sr, _⟩ := I.wrO hx hk (.inl rfl) hg
  obtain ⟨_, kvs, es, a1, a2, a3, a4, a5⟩ := sr
  cases a1
  subst a2
  obtain ⟨l', e2, rel⟩ := kv_rel a5
  subst e2
  replace h3 : es3 _ = _ := h3
  rw [es3_mk] at h3
  cases h3
  have := pr_val k rel
  refine ⟨p, valV kvs k, e1, ?_, this⟩
  rw [keyO_kV (H := B) hkk hu]
  exact DGet.k a4
theorem ask4 {G : Gd} {ow : List Nat} {B H : Hp} {σ : L2.St} {γ : Env} (I : EnvR G ow B H σ γ) {i : Nat} {dd kk : D} {u : V} (hx : G.x = none) (hk : ow.getD i 0 = 4) (hg : γ[i]? = some (some dd)) {l : List (List Key × D)} {k : List Key} (h3 : d4 dd = some l) (hkk : keyT kk = some k) (hu : Dn G.K B u kk) :
    ∃ p o, σ[i]? = some (some (.ref p)) ∧ DGet H p u o ∧ match valG l k with
      | none => o = none
      | some d => ∃ v, o = some v ∧ Dn G.K B v d := by
  obtain ⟨p, e1, hb, sr, _⟩ := I.wrO hx hk (.inr rfl) hg
  obtain ⟨_, kvs, es, a1, a2, a3, a4, a5⟩ := sr
  cases a1
  subst a2
  obtain ⟨l', e2, rel⟩ := kt_rel a5
  subst e2
  replace h3 : es4 _ = _ := h3
  rw [es4_mk] at h3
  cases h3
  have := pr_val k rel
  refine ⟨p, valV kvs k, e1, ?_, this⟩
  unfold keyT at hkk
  split at hkk
  · cases hu with
    | tup ha hda =>
      rw [keysO_kV hda hkk] at ha
      exact DGet.t a4 (I.s _ _ ha)
  · cases hkk
/-- a slot at level 3 or 4 is asked -/
structure Ask (F : D → D → Option (Option D)) (m : Nat) : Prop where
  run : ∀ {G : Gd} {ow : List Nat} {B H : Hp} {σ : L2.St} {γ : Env}, EnvR G ow B H σ γ → ∀ {i : Nat} {dd kk : D} {u : V}, G.x = none → ow.getD i 0 = m → γ[i]? = some (some dd) → ∀ {r : Option D}, F dd kk = some r → Dn G.K B u kk →
    ∃ p o, σ[i]? = some (some (.ref p)) ∧ DGet H p u o ∧ match r with
      | none => o = none
      | some d => ∃ v, o = some v ∧ Dn G.K B v d
def val3 (dd kk : D) : Option (Option D) := (d3 dd).bind fun l => (keyO kk).map fun k => valG l k
def val4 (dd kk : D) : Option (Option D) := (d4 dd).bind fun l => (keyT kk).map fun k => valG l k
theorem ask_3 : Ask val3 3 := ⟨by
  intro G ow B H σ γ I i dd kk u hx hk hg r hr hu
  unfold val3 at hr
  cases h3 : d3 dd with
  | none => rw [h3] at hr; cases hr
  | some l =>
    rw [h3] at hr
    cases hkk : keyO kk with
    | none => rw [hkk] at hr; cases hr
    | some k =>
      rw [hkk] at hr
      cases hr
      exact ask3 I hx hk hg h3 hkk hu⟩
theorem ask_4 : Ask val4 4 := ⟨by
  intro G ow B H σ γ I i dd kk u hx hk hg r hr hu
  unfold val4 at hr
  cases h3 : d4 dd with
  | none => rw [h3] at hr; cases hr
  | some l =>
    rw [h3] at hr
    cases hkk : keyT kk with
    | none => rw [hkk] at hr; cases hr
    | some k =>
      rw [hkk] at hr
      cases hr
      exact ask4 I hx hk hg h3 hkk hu⟩
@[simp] abbrev eDin (F : D → D → Option (Option D)) (neg : Bool) (i : Nat) (fi : Env → Rs D) : Env → Rs D := fun γ => (fi γ).bind fun kk => (gE γ i).bind fun dd => (oR (F dd kk)).bind fun r => .ok (.bool (neg != r.isSome))
@[simp] abbrev eDget (F : D → D → Option (Option D)) (i : Nat) (fi : Env → Rs D) : Env → Rs D := fun γ => (gE γ i).bind fun dd => (fi γ).bind fun kk => (oR (F dd kk)).bind fun r => oR r
section
variable {X : Cx} {ix : Expr} {x : Str} {p1 pos : Pos} {G : Gd} {ow : List Nat} {fi : Env → Rs D} {F : D → D → Option (Option D)} {m n : Nat}
theorem d_din (A : Ask F m) (i : Nat) (hr : Room n X.A) (hix : PE X ix (cV G ow 0 fi)) (hk : ow.getD i 0 = m := by rfl) (hi : X.N[i]? = some x := by rfl) (hv : Vis X.env.scope x := by first | exact Or.inl rfl | exact Or.inr (Or.inl rfl) | exact Or.inr (Or.inr rfl)) (hg : G.x = none := by rfl)
    (hd : (x == ("__debug__" : Str)) = false := by decide) (hcd : (x == ("__classdict__" : Str)) = false := by decide) : PE X (.Compare ix [.In] [.Name x p1] pos) (cV G ow 0 (eDin F false i fi)) :=
  (pe_cmp (pc_din (by have := hr.un; omega) hix (pe_var hi hv hd hcd)) rfl).impD fun σ H Q ⟨B, γ, I, q⟩ => ⟨B, γ, I, q.bind.imp fun kk q u B1 H1 x1 hu => by
    obtain ⟨dd, hgi, q⟩ := q.bind.gE
    obtain ⟨r, er, q⟩ := q.bind.oR
    obtain ⟨p, o, e1, dg, hr⟩ := A.run (I.mono x1) hg hk hgi er hu
    refine ⟨.ref p, e1, p, o, rfl, dg, ?_⟩
    have e : o.isSome = r.isSome := by
      cases r with
      | none => rw [show o = none from hr]; rfl
      | some d => obtain ⟨v, e, _⟩ := hr; rw [e]; rfl
    rw [e]
    exact q _ B1 H1 x1 (by rw [Bool.false_bne]; exact .bl _)⟩
theorem d_dnotin (A : Ask F m) (i : Nat) (hr : Room n X.A) (hix : PE X ix (cV G ow 0 fi)) (hk : ow.getD i 0 = m := by rfl) (hi : X.N[i]? = some x := by rfl) (hv : Vis X.env.scope x := by first | exact Or.inl rfl | exact Or.inr (Or.inl rfl) | exact Or.inr (Or.inr rfl)) (hg : G.x = none := by rfl)
    (hd : (x == ("__debug__" : Str)) = false := by decide) (hcd : (x == ("__classdict__" : Str)) = false := by decide) : PE X (.Compare ix [.NotIn] [.Name x p1] pos) (cV G ow 0 (eDin F true i fi)) :=
  (pe_cmp (pc_dnotin (by have := hr.un; omega) hix (pe_var hi hv hd hcd)) rfl).impD fun σ H Q ⟨B, γ, I, q⟩ => ⟨B, γ, I, q.bind.imp fun kk q u B1 H1 x1 hu => by
    obtain ⟨dd, hgi, q⟩ := q.bind.gE
    obtain ⟨r, er, q⟩ := q.bind.oR
    obtain ⟨p, o, e1, dg, hr⟩ := A.run (I.mono x1) hg hk hgi er hu
    refine ⟨.ref p, e1, p, o, rfl, dg, ?_⟩
    have e : o.isSome = r.isSome := by
      cases r with
      | none => rw [show o = none from hr]; rfl
      | some d => obtain ⟨v, e, _⟩ := hr; rw [e]; rfl
    rw [e]
    exact q _ B1 H1 x1 (by rw [Bool.true_bne]; exact .bl _)⟩
theorem t_din (A : Ask F m) (i : Nat) (hr : Room n X.A) (hix : PE X ix (cV G ow 0 fi)) (hk : ow.getD i 0 = m := by rfl) (hi : X.N[i]? = some x := by rfl) (hv : Vis X.env.scope x := by first | exact Or.inl rfl | exact Or.inr (Or.inl rfl) | exact Or.inr (Or.inr rfl)) (hg : G.x = none := by rfl)
    (hd : (x == ("__debug__" : Str)) = false := by decide) (hcd : (x == ("__classdict__" : Str)) = false := by decide) : PT X (.Compare ix [.In] [.Name x p1] pos) (cT G ow (b1 (eDin F false i fi) boolO)) :=
  (pt_cmp (pc_din (by have := hr.un; omega) hix (pe_var hi hv hd hcd)) rfl).impD fun σ H Q ⟨B, γ, I, q⟩ => ⟨B, γ, I, q.bind.bind.imp fun kk q u B1 H1 x1 hu => by
    obtain ⟨dd, hgi, q⟩ := q.bind.gE
    obtain ⟨r, er, q⟩ := q.bind.oR
    obtain ⟨p, o, e1, dg, hr⟩ := A.run (I.mono x1) hg hk hgi er hu
    refine ⟨.ref p, e1, p, o, rfl, dg, _, rfl, ?_⟩
    have e : o.isSome = r.isSome := by
      cases r with
      | none => rw [show o = none from hr]; rfl
      | some d => obtain ⟨v, e, _⟩ := hr; rw [e]; rfl
    rw [e]
    have q2 : RsP G σ B H (oR (boolO (.bool (false != r.isSome)))) (fun b => ∀ B' H', Ext B H B' H' → Q b H') := q
    obtain ⟨b, eb, q⟩ := q2.oR
    cases eb
    rw [Bool.false_bne] at q
    exact q B1 H1 x1⟩
theorem t_dnotin (A : Ask F m) (i : Nat) (hr : Room n X.A) (hix : PE X ix (cV G ow 0 fi)) (hk : ow.getD i 0 = m := by rfl) (hi : X.N[i]? = some x := by rfl) (hv : Vis X.env.scope x := by first | exact Or.inl rfl | exact Or.inr (Or.inl rfl) | exact Or.inr (Or.inr rfl)) (hg : G.x = none := by rfl)
    (hd : (x == ("__debug__" : Str)) = false := by decide) (hcd : (x == ("__classdict__" : Str)) = false := by decide) : PT X (.Compare ix [.NotIn] [.Name x p1] pos) (cT G ow (b1 (eDin F true i fi) boolO)) :=
  (pt_cmp (pc_dnotin (by have := hr.un; omega) hix (pe_var hi hv hd hcd)) rfl).impD fun σ H Q ⟨B, γ, I, q⟩ => ⟨B, γ, I, q.bind.bind.imp fun kk q u B1 H1 x1 hu => by
    obtain ⟨dd, hgi, q⟩ := q.bind.gE
    obtain ⟨r, er, q⟩ := q.bind.oR
    obtain ⟨p, o, e1, dg, hr⟩ := A.run (I.mono x1) hg hk hgi er hu
    refine ⟨.ref p, e1, p, o, rfl, dg, _, rfl, ?_⟩
    have e : o.isSome = r.isSome := by
      cases r with
      | none => rw [show o = none from hr]; rfl
      | some d => obtain ⟨v, e, _⟩ := hr; rw [e]; rfl
    rw [e]
    have q2 : RsP G σ B H (oR (boolO (.bool (true != r.isSome)))) (fun b => ∀ B' H', Ext B H B' H' → Q b H') := q
    obtain ⟨b, eb, q⟩ := q2.oR
    cases eb
    rw [Bool.true_bne] at q
    exact q B1 H1 x1⟩
theorem d_dget (A : Ask F m) (i : Nat) (hr : Room n X.A) (hix : PE X ix (cV G ow 0 fi)) (hk : ow.getD i 0 = m := by rfl) (hi : X.N[i]? = some x := by rfl) (hv : Vis X.env.scope x := by first | exact Or.inl rfl | exact Or.inr (Or.inl rfl) | exact Or.inr (Or.inr rfl)) (hg : G.x = none := by rfl)
    (hd : (x == ("__debug__" : Str)) = false := by decide) (hcd : (x == ("__classdict__" : Str)) = false := by decide) (hs : NoSl ix := by exact fun _ _ => rfl) : PE X (.Subscript (.Name x p1) ix pos) (cV G ow 0 (eDget F i fi)) :=
  (pe_dget (by have := hr.un; omega) (pe_var hi hv hd hcd) hix hs).impD fun σ H Q ⟨B, γ, I, q⟩ => by
    obtain ⟨dd, hgi, q⟩ := q.bind.gE
    obtain ⟨v0, e0, _⟩ := I.v.choose_spec.2.2 i dd hgi
    refine ⟨v0, e0, B, γ, I, q.bind.imp fun kk q u B1 H1 x1 hu => ?_⟩
    obtain ⟨r, er, q⟩ := q.bind.oR
    obtain ⟨p, o, e1, dg, hr⟩ := A.run (I.mono x1) hg hk hgi er hu
    rw [e0] at e1
    cases e1
    obtain ⟨d, ed, q⟩ := q.oR
    subst ed
    obtain ⟨v, ev, hv'⟩ := hr
    subst ev
    exact ⟨p, v, rfl, dg, q v B1 H1 x1 hv'⟩
end
@[simp] abbrev eDget2 (F : D → D → Option (Option D)) (i : Nat) (fi fz : Env → Rs D) : Env → Rs D := fun γ => (gE γ i).bind fun dd => (fi γ).bind fun kk => (fz γ).bind fun z => (oR (F dd kk)).bind fun r => .ok (r.getD z)
def dlenD : D → Option D
  | .dict es => some (.int (es.length : Nat))
  | _ => none
section
variable {X : Cx} {ix zx : Expr} {x : Str} {p p1 ap pos : Pos} {G : Gd} {ow : List Nat} {fi fz : Env → Rs D} {F : D → D → Option (Option D)} {m n : Nat}
theorem d_dget2 (A : Ask F m) (h34 : m = 3 ∨ m = 4) (i : Nat) (hr : Room n X.A) (hix : PE X ix (cV G ow 0 fi)) (hz : PE X zx (cV G ow 0 fz)) (hk : ow.getD i 0 = m := by rfl) (hi : X.N[i]? = some x := by rfl) (hv : Vis X.env.scope x := by first | exact Or.inl rfl | exact Or.inr (Or.inl rfl) | exact Or.inr (Or.inr rfl)) (hg : G.x = none := by rfl)
    (hd : (x == ("__debug__" : Str)) = false := by decide) (hcd : (x == ("__classdict__" : Str)) = false := by decide) (hm : M2 X (.Name x p1) "get" ap ix zx pos := by exact ⟨rfl, rfl, rfl, rfl⟩) : PE X (.Call (.Attribute (.Name x p1) "get" ap) [ix, zx] [] pos) (cV G ow 0 (eDget2 F i fi fz)) :=
  (pe_dget2 (by have := hr.un; omega) (pe_var hi hv hd hcd) hix hz hm).impD fun σ H Q ⟨B, γ, I, q⟩ => by
    obtain ⟨dd, hgi, q⟩ := q.bind.gE
    obtain ⟨p0, e0, _, sr, _⟩ := I.wrO hg hk h34 hgi
    have isd : IsD H p0 := by
      rcases h34 with rfl | rfl
      · obtain ⟨_, kvs, es, a1, a2, a3, a4, a5⟩ := sr
        cases a1
        exact .inl ⟨kvs, .inl a4⟩
      · obtain ⟨_, kvs, es, a1, a2, a3, a4, a5⟩ := sr
        cases a1
        exact .inr ⟨kvs, .inl a4⟩
    refine ⟨.ref p0, e0, p0, rfl, isd, B, γ, I, q.bind.imp fun kk q u B1 H1 x1 hu => ⟨B1, γ, I.mono x1, q.bind.mono x1 fun z q w B2 H2 x2 hw => ?_⟩⟩
    obtain ⟨r, er, q⟩ := q.bind.oR
    obtain ⟨p', o, e1, dg, hr⟩ := A.run (I.mono (x1.trans x2)) hg hk hgi er (Dn.mono x2.b hu)
    rw [e0] at e1
    cases e1
    refine ⟨o, dg, ?_⟩
    cases r with
    | none =>
      rw [show o = none from hr]
      exact q w B2 H2 (x1.trans x2) hw
    | some d =>
      obtain ⟨v, ev, hv'⟩ := hr
      rw [ev]
      exact q v B2 H2 (x1.trans x2) hv'
theorem d_dlen (h34 : m = 3 ∨ m = 4) (i : Nat) (hm : X.mg "len" = none) (hk : ow.getD i 0 = m := by rfl) (hi : X.N[i]? = some x := by rfl) (hv : Vis X.env.scope x := by first | exact Or.inl rfl | exact Or.inr (Or.inl rfl) | exact Or.inr (Or.inr rfl)) (hg : G.x = none := by rfl) (hgl : Gl X "len" := by rfl)
    (hd : (x == ("__debug__" : Str)) = false := by decide) (hcd : (x == ("__classdict__" : Str)) = false := by decide) (he : starEach [.Name x p1] X.env = (false, eval (.Name x p1) X.env) :: starEach [] X.env := by rfl) (hpl : (backTo pos (starEach [] X.env)).any (·.1) = false := by rfl) :
    PE X (.Call (.Name "len" p) [.Name x p1] [] pos) (cV G ow 0 fun γ => (gE γ i).bind fun dd => oR (dlenD dd)) :=
  (pe_callB (CallR.or call_lenD call_len_dT) hgl hm PySem.boot_len (pa_cons (pe_var hi hv hd hcd) pa_nil he) (by decide) (by decide) he hpl).impD fun σ H Q ⟨B, γ, I, q⟩ => by
    obtain ⟨dd, hgi, q⟩ := q.bind.gE
    obtain ⟨p0, e0, _, sr, _⟩ := I.wrO hg hk h34 hgi
    obtain ⟨z, ez, q⟩ := q.oR
    refine ⟨.ref p0, e0, ?_⟩
    rcases h34 with rfl | rfl
    · obtain ⟨_, kvs, es, a1, a2, a3, a4, a5⟩ := sr
      cases a1
      subst a2
      cases ez
      exact .inl ⟨p0, kvs, rfl, a4, by rw [kv_len a5]; exact q _ B H (.refl I.s) (Dn.int _)⟩
    · obtain ⟨_, kvs, es, a1, a2, a3, a4, a5⟩ := sr
      cases a1
      subst a2
      cases ez
      exact .inr ⟨p0, kvs, rfl, a4, by rw [kt_len a5]; exact q _ B H (.refl I.s) (Dn.int _)⟩
end
@[simp] abbrev sDnew (i : Nat) : Env → Out := fun γ => .nx (γ.set i (some (.dict [])))
end DL
set_option Elab.async false
set_option linter.all false
set_option maxRecDepth 100000
set_option maxHeartbeats 4000000
/-! The data layer: dict comprehensions with tuples as keys. -/
namespace DL
open PySem PySem.Spec PyProof.Rows L2

theorem tset {X : Cx} {pins : List (Addr × Obj)} {σ : L2.St} {H : Hp} {s : Shared} {E : Value → Shared → Prop} {Q : Unit → Shared → Prop} {D b : Addr} {kvs : List (List Key × V)} {k : List Key} {v : V} {r : Value} (hu : X.A.units < cLine) (I : L2.Inv X pins σ H s)
    (hD : H D = some (.dT kvs)) (hz : kvs.length < sizeLine) (eb : H b = some (.tup (k.map kV))) (rv : RelV v r) (h : ∀ t, L2.Inv X pins σ (upd H D (.dT (putK kvs k v))) t → Q () t) : wpAny (model X.prog X.w) X.A (dictSet D (.ref b) r) Q E s := by
  obtain ⟨z1, z2, ps, pr, od⟩ := dt_of I.hok hD
  have hl := length_putK kvs k v
  refine wpAny_dictSet_heap (knd := tupleKind (mixKind X.prog X.w)) (hsz := by rw [← Paired.length pr]; exact z1) hu (key_of I.hok eb) od fun g od' sb => h _ ?_
  obtain ⟨ob, es, ep, g1, g2, g3, g4, _, g5⟩ := od'
  refine d_write I (by rw [hD]; exact True.intro) sb ⟨ob, g1⟩ ⟨by omega, z2, _, (pr.put k eb rv).keeps fun c ys ec => ?_, ob, es, ep, g1, g2, g3, g4, g5⟩
  rw [upd_ne (ne_of ec hD (fun z => nomatch z))]
  exact ec
/-- {k: v for tg in iter if ..}, its keys tuples -/
def tDcT (wi : TI) (g : TG) (tt : TT) (tk tv : TE) (vs : List Nat) : TE := fun σ H Q => wi σ H fun J H1 => ∀ D, H1 D = none → ∃ W : Nat → Nat → Hp → Prop, (∃ m, W 0 m (upd H1 D (.dT []))) ∧ ∀ i m Ha, W i m Ha →
  (J.stop i Ha ∧ Q (.ref D) Ha) ∨ (J.go i Ha ∧ ∃ Nx : Hp → Prop, (∀ Hn, Nx Hn → ∃ j, j < m ∧ W (i + 1) j Hn) ∧ ∀ x Hy, J.yld i Ha x Hy → g x (L2.wipe σ vs) Hy fun τ Hb => L2.wipe τ vs = L2.wipe σ vs ∧ tt τ Hb fun b Hc =>
    if b = true then tk τ Hc fun y Hd => tv τ Hd fun z He => ∃ kvs k q, y = .ref q ∧ He q = some (.tup (k.map kV)) ∧ He D = some (.dT kvs) ∧ kvs.length < sizeLine ∧ Nx (upd He D (.dT (putK kvs k z))) else Nx Hc)
section
variable {X : Cx} {kx vx tg iter : Expr} {ifs : List Expr} {scope : Scope} {own : List (Str × Nat)} {pos : Pos} {wi : TI} {g : TG} {tt : TT} {tk tv : TE}
/-- the comprehension's block, seen from a heap with the new dict -/
theorem pe_dcT (hc : X.calm = true) (hu : X.A.units < cLine) (hN : X.N.Nodup) (hi : PI X tg iter wi) (ok : BlkOk X.N X.env.scope scope own)
    (hg : ∀ (t : Shared) (Ht : Hp) (C : Addr) (cl : List (Str × Addr)) (fp : List Addr), PG (X.blk t Ht scope (compEnvC scope cl C X.env) fp) tg g) (ht : ∀ (t : Shared) (Ht : Hp) (C : Addr) (cl : List (Str × Addr)) (fp : List Addr), PTs (X.blk t Ht scope (compEnvC scope cl C X.env) fp) ifs tt)
    (hk : ∀ (t : Shared) (Ht : Hp) (C : Addr) (cl : List (Str × Addr)) (fp : List Addr), PE (X.blk t Ht scope (compEnvC scope cl C X.env) fp) kx tk)
    (he : ∀ (t : Shared) (Ht : Hp) (C : Addr) (cl : List (Str × Addr)) (fp : List Addr), PE (X.blk t Ht scope (compEnvC scope cl C X.env) fp) vx tv) (hs : ∀ x, foldedSetIterable iter X.env x = pure x := by intro _; rfl) :
    PE X (.DictComp kx vx [⟨tg, iter, ifs, 0⟩] scope pos) (tDcT wi g tt tk tv (own.map (·.2))) := ⟨fun pins s σ H Q I h => by
  have free : ∀ y ∈ scope.names, y.2 = .free → ∃ c, X.env.cells.lookup y.1 = some c := fun y hy e => (ok.free y hy e).elim (fun z => I.ok.has _ (.inl z)) fun z => I.ok.has _ (.inr z)
  rw [arm_eval_DictComp]
  refine wpAny_comprehension_free rfl hs (closure_ok free) ok.kind (fun y hy e => by rw [ok.uniq y hy, e]) (thn (hi.run pins s σ H _ I h) fun sv t1 h1 => thn h1 fun iv t2 ⟨it, fp, tn, J, H2, e, I2, T, st2, f2, q⟩ => ?_)
  subst e
  refine wpAny_newObj_type (newEnv_comp ?_)
  obtain ⟨D, hD⟩ : ∃ D, t2.heap.objs.size = D := ⟨_, rfl⟩
  rw [hD]
  obtain ⟨W, ⟨m0, w0⟩, turn⟩ := q D (I2.hok.fresh (Nat.le_of_eq hD))
  obtain ⟨t3, h3⟩ : ∃ t3 : Shared, t3 = { t2 with heap := t2.heap.push { cls := .type "dict", data := .dict #[] } } := ⟨_, rfl⟩
  have hp3 : t3.heap = t2.heap.push { cls := .type "dict", data := .dict #[] } := by rw [h3]
  have I3 : L2.Inv X pins σ (upd H2 D (.dT [])) t3 := by
    rw [h3]
    refine I2.laid (t' := t2.toks) (fun b o w => Heap.get?_push_of_some _ w) (Nat.le_of_eq hD) (hD ▸ dt_empty t2.heap I2.big)
  have low : ∀ b ∈ fp, b < t2.heap.objs.size := fun b hb => let ⟨o, w, _⟩ := T.obj _ _ st2 b hb; Heap.lt_size w
  have f3 : ∀ b ∈ fp, FpOk X pins (upd H2 D (.dT [])) b ∧ b < t3.heap.objs.size := fun b hb => by
    refine ⟨⟨?_, (f2 b hb).2⟩, by rw [hp3, Heap.size_push]; exact Nat.lt_succ_of_lt (low b hb)⟩
    rw [upd_ne (hD ▸ Nat.ne_of_lt (low b hb))]
    exact (f2 b hb).1
  have st3 : tn 0 t3.heap := T.keep _ _ _ st2 fun b _ o w => by rw [hp3]; exact Heap.get?_push_of_some _ w
  have nf : ∀ b ∈ fp, (upd H2 D (.dT [])) b = none := fun b hb => (f3 b hb).1.1
  obtain ⟨H3, hH3⟩ : ∃ H3, upd H2 D (.dT []) = H3 := ⟨_, rfl⟩
  rw [hH3] at I3 f3 nf w0
  have I4 := block_start I3 ok hN f3
  obtain ⟨sz, hsz⟩ : ∃ z, t3.heap.objs.size = z := ⟨_, rfl⟩
  obtain ⟨cl, hcl⟩ : ∃ cl, cellsFrom (sz + 1) scope.names (cloFrom X.env.cells scope.names []) = cl := ⟨_, rfl⟩
  rw [hsz, hcl] at I4
  have pg := hg t3 H3 sz cl fp
  have pt := ht t3 H3 sz cl fp
  have pk := hk t3 H3 sz cl fp
  have pe := he t3 H3 sz cl fp
  change codeAny _ _ (.compStart (.DictComp kx vx [⟨tg, iter, ifs, 0⟩] scope pos) 0 (.ref it) (.ref D) (compEnvC scope (cellsFrom (({ t2 with heap := t2.heap.push { cls := .type "dict", data := .dict #[] } } : Shared).heap.objs.size + 1) scope.names (cloFrom X.env.cells scope.names [])) ({ t2 with heap := t2.heap.push { cls := .type "dict", data := .dict #[] } } : Shared).heap.objs.size X.env)) (compPost _ _ _ _ _ (.ref D) ({ t2 with heap := t2.heap.push { cls := .type "dict", data := .dict #[] } } : Shared).heap.objs.size) _
  rw [← h3, hsz, hcl]
  obtain ⟨ce, hce⟩ : ∃ ce, compEnvC scope cl sz X.env = ce := ⟨_, rfl⟩
  have cloc : ce.locals = sz := by rw [← hce]; rfl
  rw [hce] at I4 pg pt pk pe ⊢
  obtain ⟨t4, h4⟩ : ∃ t4 : Shared, ({ t3 with heap := pushCells (t3.heap.push { cls := .type "dict", data := .dict #[] }) scope.names } : Shared) = t4 := ⟨_, rfl⟩
  change codeAny _ _ _ _ ({ t3 with heap := pushCells (t3.heap.push { cls := .type "dict", data := .dict #[] }) scope.names } : Shared)
  rw [h4] at I4 ⊢
  have st4 : tn 0 t4.heap := T.keep _ _ _ st3 fun b _ o w => by rw [← h4]; exact pushCells_keeps _ _ _ _ (Heap.get?_push_of_some _ w)
  have fixd : ∀ {τ : L2.St} {Ht : Hp} {t : Shared}, L2.Inv (X.blk t3 H3 scope ce fp) [] τ Ht t → (∀ b ∈ fp, Ht b = none) → ∀ b ∈ fp, FpOk (X.blk t3 H3 scope ce fp) [] Ht b := fun {τ Ht t} J' hn b hb => by
    obtain ⟨z1, z2⟩ := J'.ok.exf b hb
    exact ⟨hn b hb, z1, J'.ok.exfs b hb, .inl hb, fun x c w => z2 x c w, fun p hp => absurd (show p ∈ ([] : List (Addr × Obj)) ++ [] from hp) (by simp)⟩
  have loop : codeAny (model X.prog X.w) X.A (.compLoop (.DictComp kx vx [⟨tg, iter, ifs, 0⟩] scope pos) 0 (.ref it) (.ref D) ce) (compPost (model X.prog X.w) X.A X.xe none (EP X pins σ Q) (.ref D) sz) t4 := by
    refine compLoop_anyD (fun n t => ∃ i Ht, L2.Inv (X.blk t3 H3 scope ce fp) [] (L2.wipe σ (own.map (·.2))) Ht t ∧ tn i t.heap ∧ (∀ b ∈ fp, Ht b = none) ∧ W i n Ht) (fun n t ⟨i, Ht, I5, st5, n5, w5⟩ => ?_) m0 ⟨0, H3, I4, st4, nf, w0⟩
    rcases turn i n Ht w5 with ⟨stop, qq⟩ | ⟨go, Nx, hNx, step⟩
    · refine thnF (T.done (X.blk t3 H3 scope ce fp) rfl rfl rfl hc i [] t _ Ht (fun _ _ => False) I5 (fixd I5 n5) st5 stop) fun r t6 ⟨hr, I6⟩ => ?_
      subst hr
      have I7 : L2.Inv X pins σ Ht t6 := I3.call' (ch := fp) I6.os I6.base I6.hok I6.bare fun b hb => by
        obtain ⟨_, a1, a2, a3, a4, a5⟩ := (f3 b hb).1
        exact ⟨a3, a1, a4, a5⟩
      have nC : Ht sz = none := cloc ▸ I6.free
      obtain ⟨m, hm, _⟩ := I6.loc
      have hns : t6.heap.Ns ce.locals m := hm
      rw [cloc] at hns
      refine ⟨m, hns, fun g' sb => ?_⟩
      obtain ⟨b0, b1, b2, b3, b4, b5⟩ := I3.fpOk (Nat.le_of_eq hsz) nC
      exact ⟨.ref D, Ht, I7.turned (t' := t6.toks) (fun b o hb w => (sb.2 b hb).trans w) b0 b1 b3 b4 b5, rfl, qq⟩
    · refine thnF (T.item (X.blk t3 H3 scope ce fp) rfl rfl rfl hc i [] t _ Ht (fun _ _ => False) I5 (fixd I5 n5) st5 go) fun r t6 ⟨u, hr, h6⟩ => ?_
      subst hr
      refine thnF h6 fun _ t7 ⟨x, H7, I7, r7, y7, st7, n7⟩ => ?_
      refine thnF (pg.run _ t7 _ H7 x u _ (I7.pinned (fixd I7 n7) (T.obj _ _ st7)) r7 (step x H7 y7)) fun _ t8 ⟨τ, H8, I8, hw8, q8⟩ => ?_
      refine thnF (pt.run _ t8 τ H8 _ I8 q8) fun b t9 ⟨H9, I9, q9⟩ => ?_
      have fin : ∀ {t : Shared} {Hn : Hp}, L2.Inv (X.blk t3 H3 scope ce fp) ([] ++ pinsAt fp t7.heap) τ Hn t → Nx Hn → ∃ m, m < n ∧ ∃ i Ht, L2.Inv (X.blk t3 H3 scope ce fp) [] (L2.wipe σ (own.map (·.2))) Ht t ∧ tn i t.heap ∧ (∀ b ∈ fp, Ht b = none) ∧ W i m Ht := fun {t Hn} J' nx => by
        obtain ⟨j, hj, wj⟩ := hNx Hn nx
        have still : ∀ b ∈ fp, ∀ o, t7.heap.get? b = some o → t.heap.get? b = some o ∧ Hn b = none := fun b hb o w => by
          have z := J'.pin (b, o) (List.mem_append_right _ (List.mem_append_right _ (mem_pinsAt hb w)))
          exact ⟨z.1, z.2.1⟩
        have hlen : (L2.wipe σ (own.map (·.2))).length = τ.length := by rw [← hw8, wipe_length]
        refine ⟨j, hj, i + 1, Hn, (J'.unpinned (pins := [])).weak hlen (fun l v w => (wipe_some (hw8 ▸ w)).1), T.keep _ _ _ st7 fun b hb o w => (still b hb o w).1, fun b hb => ?_, wj⟩
        obtain ⟨o, w, _⟩ := T.obj _ _ st7 b hb
        exact (still b hb o w).2
      cases b with
      | false => exact fin I9 (by simpa using q9)
      | true =>
        rw [if_pos rfl] at q9
        rw [if_pos rfl]
        refine thnF (pk.run _ t9 τ H9 _ I9 q9) fun z t10 ⟨yk, H10, I10, r10, q10⟩ => ?_
        refine thnF (pe.run _ t10 τ H10 _ I10 q10) fun z2 t11 ⟨yv, H11, I11, r11, kvs, k, b, ek, eb, hD11, hz11, nx⟩ => ?_
        subst ek
        cases r10
        exact tset (X := X.blk t3 H3 scope ce fp) hu I11 hD11 hz11 eb r11 fun t12 I12 => fin I12 nx
  exact codeAny_compStart_dict loop (T.self X.A 0 _ _ _ st4 loop)⟩
end
/-! len({k: d for ..}), its keys tuples -/
def keysTO : List D → Option (List (List Key))
  | [] => some []
  | d :: ds => (keyT d).bind fun k => (keysTO ds).map fun ks => k :: ks
def cntT (ks : List D) : Option D := (keysTO ks).bind fun l => if l.length ≤ LIM then some (.int (nubL l).length) else none
@[simp] abbrev eLenDcT (vs : List Nat) (fi : Env → Rs (List D)) (t : D → Env → Option Env) (c : Env → Rs Bool) (fk : Env → Rs D) : Env → Rs D := fun γ => (fi γ).bind fun ds => (compL t c fk ds (wipeE γ vs)).bind fun ks => oR (cntT ks)
theorem keysTO_app : ∀ (a b : List D) {l : List (List Key)}, keysTO (a ++ b) = some l → ∃ l1 l2, keysTO a = some l1 ∧ keysTO b = some l2 ∧ l = l1 ++ l2
  | [], b, l, h => ⟨[], l, rfl, h, rfl⟩
  | d :: a, b, l, h => by
    replace h : (keyT d).bind _ = _ := h
    cases hk : keyT d with
    | none => rw [hk] at h; cases h
    | some k =>
      rw [hk] at h
      replace h : (keysTO (a ++ b)).map _ = _ := h
      cases hr : keysTO (a ++ b) with
      | none => rw [hr] at h; cases h
      | some m =>
        rw [hr] at h
        cases h
        obtain ⟨l1, l2, e1, e2, e3⟩ := keysTO_app a b hr
        refine ⟨k :: l1, l2, ?_, e2, by rw [e3]; rfl⟩
        show (keyT d).bind _ = _
        rw [hk]
        show (keysTO a).map _ = _
        rw [e1]
        rfl
theorem keysTO_len : ∀ {a : List D} {l : List (List Key)}, keysTO a = some l → l.length = a.length
  | [], l, h => by cases h; rfl
  | d :: a, l, h => by
    replace h : (keyT d).bind _ = _ := h
    cases hk : keyT d with
    | none => rw [hk] at h; cases h
    | some k =>
      rw [hk] at h
      replace h : (keysTO a).map _ = _ := h
      cases hr : keysTO a with
      | none => rw [hr] at h; cases h
      | some m =>
        rw [hr] at h
        cases h
        rw [List.length_cons, List.length_cons, keysTO_len hr]
theorem putK_keys {κ : Type} [DecidableEq κ] {kvs : List (κ × V)} {k : κ} {v : V} (hn : (kvs.map (·.1)).Nodup) : ((putK kvs k v).map (·.1)).Nodup ∧ ∀ x, x ∈ (putK kvs k v).map (·.1) ↔ x ∈ kvs.map (·.1) ∨ x = k := by
  unfold putK
  by_cases h : (kvs.any fun kv => decide (kv.1 = k)) = true
  · rw [if_pos h]
    have e : (kvs.map fun kv => if kv.1 = k then (kv.1, v) else kv).map (·.1) = kvs.map (·.1) := by
      rw [List.map_map]
      refine List.map_congr_left fun p _ => ?_
      show (if p.1 = k then (p.1, v) else p).1 = p.1
      split <;> rfl
    rw [e]
    refine ⟨hn, fun x => ⟨.inl, fun hx => ?_⟩⟩
    rcases hx with hx | rfl
    · exact hx
    · obtain ⟨p, hp, hpk⟩ := List.any_eq_true.mp h
      exact List.mem_map.mpr ⟨p, hp, of_decide_eq_true hpk⟩
  · rw [if_neg h, List.map_append]
    have hk : k ∉ kvs.map (·.1) := fun hx => by
      obtain ⟨p, hp, e⟩ := List.mem_map.mp hx
      exact h (List.any_eq_true.mpr ⟨p, hp, decide_eq_true e⟩)
    refine ⟨List.nodup_append.mpr ⟨hn, by simp, fun a ha b hb e => ?_⟩, fun x => by simp⟩
    simp at hb
    subst hb
    exact hk (e ▸ ha)
section
variable {X : Cx} {kx vx tg iter : Expr} {ifs : List Expr} {scope : Scope} {own : List (Str × Nat)} {p pos cpos : Pos} {G : Gd} {ow : List Nat} {fi : Env → Rs (List D)} {t : D → Env → Option Env} {c : Env → Rs Bool} {fk : Env → Rs D} {d0 : D} {n : Nat}
theorem d_lenDcT (own : List (Str × Nat)) (hr : Room n X.A) (hm : X.mg "len" = none) (hN : X.N.Nodup) (hi : PI X tg iter (cI G ow fi)) (ok : BlkOk X.N X.env.scope scope own)
    (hg : ∀ (s : Shared) (H : Hp) (C : Addr) (cl : List (Str × Addr)) (fp : List Addr), PG (X.blk s H scope (compEnvC scope cl C X.env) fp) tg (cG G.mute ow (own.map (·.2)) t)) (ht : ∀ (s : Shared) (H : Hp) (C : Addr) (cl : List (Str × Addr)) (fp : List Addr), PTs (X.blk s H scope (compEnvC scope cl C X.env) fp) ifs (cT G.mute ow c))
    (hk : ∀ (s : Shared) (H : Hp) (C : Addr) (cl : List (Str × Addr)) (fp : List Addr), PE (X.blk s H scope (compEnvC scope cl C X.env) fp) kx (cV G.mute ow 0 fk))
    (he : ∀ (s : Shared) (H : Hp) (C : Addr) (cl : List (Str × Addr)) (fp : List Addr), PE (X.blk s H scope (compEnvC scope cl C X.env) fp) vx (cV G.mute ow 0 fun _ => .ok d0)) (hc : X.calm = true := by rfl) (hx : G.x = none := by rfl) (hgl : Gl X "len" := by rfl) (hs : ∀ x, foldedSetIterable iter X.env x = pure x := by intro _; rfl)
    (hse : starEach [.DictComp kx vx [⟨tg, iter, ifs, 0⟩] scope pos] X.env = (false, eval (.DictComp kx vx [⟨tg, iter, ifs, 0⟩] scope pos) X.env) :: starEach [] X.env := by rfl) (hpl : (backTo cpos (starEach [] X.env)).any (·.1) = false := by rfl) :
    PE X (.Call (.Name "len" p) [.DictComp kx vx [⟨tg, iter, ifs, 0⟩] scope pos] [] cpos) (cV G ow 0 (eLenDcT (own.map (·.2)) fi t c fk)) :=
  (pe_callB call_len_dT hgl hm PySem.boot_len (pa_cons (pe_dcT hc (hr.units0) hN hi ok hg ht hk he hs) pa_nil hse) (by decide) (by decide) hse hpl).impD fun σ H Q ⟨B, γ, I, q⟩ => by
  refine ⟨B, γ, I, q.bind.imp fun ds q J B1 H1 x1 jw => fun Da hDa => ?_⟩
  obtain ⟨ks, hks, q⟩ : ∃ ks, compL t c fk ds (wipeE γ (own.map (·.2))) = .ok ks ∧ RsP G σ B H (oR (cntT ks)) fun d => ∀ v B' H', Ext B H B' H' → DnF G.K B' H' 0 v d → Q v H' := by
    cases hr : compL t c fk ds (wipeE γ (own.map (·.2))) with
    | er _ _ => exact absurd hr compL_er
    | no => rw [hr] at q; exact q.elim
    | ok ks => rw [hr] at q; exact ⟨ks, rfl, q⟩
  obtain ⟨z, ez, q9⟩ := q.oR
  unfold cntT at ez
  cases hall : keysTO ks with
  | none => rw [hall] at ez; cases ez
  | some all =>
    rw [hall] at ez
    replace ez : (if all.length ≤ LIM then some (PyData.int (nubL all).length) else none) = some z := ez
    split at ez
    · rename_i hlim
      cases ez
      refine ⟨fun i m H' => i ≤ ds.length ∧ m = ds.length - i ∧ ∃ (B' : Hp) (kvs : List (List Key × V)) (dn rs : List D) (ln : List (List Key)), Ext B1 H1 B' H' ∧ B' Da = none ∧ H' Da = some (.dT kvs) ∧ compL t c fk (ds.drop i) (wipeE γ (own.map (·.2))) = .ok rs ∧ dn ++ rs = ks ∧ keysTO dn = some ln ∧ (kvs.map (·.1)).Nodup ∧ (∀ x, x ∈ kvs.map (·.1) ↔ x ∈ ln),
        ⟨ds.length, Nat.zero_le _, by omega, B1, [], [], ks, [], .hid x1.s hDa, same_none x1.s hDa, upd_same, hks, rfl, rfl, by simp, by simp⟩, fun i m H' hW => ?_⟩
      obtain ⟨hi, rfl, B', kvs, dn, rs, ln, xx, hb, hl', hcc, hdr, hln, hnd, hmem⟩ := hW
      obtain ⟨j1, j2⟩ := jw B' H' xx.b xx.s i
      by_cases hlt : i < ds.length
      · obtain ⟨jg, jy⟩ := j1 _ (List.getElem?_eq_getElem hlt)
        refine .inr ⟨jg, fun H2 => ∃ (B2 : Hp) (kvs : List (List Key × V)) (dn rs : List D) (ln : List (List Key)), Ext B1 H1 B2 H2 ∧ B2 Da = none ∧ H2 Da = some (.dT kvs) ∧ compL t c fk (ds.drop (i + 1)) (wipeE γ (own.map (·.2))) = .ok rs ∧ dn ++ rs = ks ∧ keysTO dn = some ln ∧ (kvs.map (·.1)).Nodup ∧ (∀ x, x ∈ kvs.map (·.1) ↔ x ∈ ln), fun H2 hN => ⟨ds.length - (i + 1), by omega, by omega, rfl, hN⟩, fun x H2 hy => ?_⟩
        obtain ⟨B2, x2, hx2⟩ := jy x H2 hy
        rw [List.drop_eq_getElem_cons hlt] at hcc
        obtain ⟨γ1, htt, b, hcb, hrest⟩ := compL_cons hcc
        have keepD : ∀ {B3 H3 : Hp}, Ext B' H' B3 H3 → B3 Da = none ∧ H3 Da = some (.dT kvs) := fun y => ⟨y.n Da hb ⟨_, hl', fun _ z => nomatch z⟩, y.h _ _ hl'⟩
        refine ⟨B2, wipeE γ (own.map (·.2)), ds[i], γ1, ((I.mono (x1.trans (xx.trans x2))).mute).wipe hx (own.map (·.2)), hx2, htt, fun σ3 hw3 I3 => ⟨hw3.trans (wipe_wipe _ _), B2, γ1, I3, ?_⟩⟩
        rw [hcb]
        intro B3 H3 x3
        rcases hrest with ⟨rfl, y, ys, hy1, hy2, rfl⟩ | ⟨rfl, hy2⟩
        · rw [if_pos rfl]
          refine ⟨B3, γ1, I3.mono x3, ?_⟩
          rw [hy1]
          intro u B4 H4 x4 hu
          refine ⟨B4, γ1, I3.mono (x3.trans x4), ?_⟩
          intro v B5 H5 x5 hv
          have y5 := ((x2.trans x3).trans x4).trans x5
          obtain ⟨k1, k2⟩ := keepD y5
          have hsp : dn ++ [y] ++ ys = ks := by rw [List.append_assoc]; exact hdr
          obtain ⟨l1, l2, e1, e2, e3⟩ := keysTO_app (dn ++ [y]) ys (hsp ▸ hall)
          obtain ⟨l3, l4, e4, e5, e6⟩ := keysTO_app dn [y] e1
          rw [hln] at e4
          cases e4
          have hlen : kvs.length ≤ ln.length := by
            have := hnd.length_le_of_subset (l₂ := ln) fun z hz => (hmem z).mp hz
            rwa [List.length_map] at this
          replace e5 : (keyT y).bind _ = _ := e5
          cases hky : keyT y with
          | none => rw [hky] at e5; cases e5
          | some k =>
            rw [hky] at e5
            cases e5
            have hku := hky
            unfold keyT at hky
            split at hky
            · rename_i kd
              have hu' : Dn G.K B4 u (.tuple kd) := hu
              cases hu' with
              | tup ha hda =>
                rw [keysO_kV hda hky] at ha
                obtain ⟨n1, n2⟩ := putK_keys (k := k) (v := v) hnd
                have hlt9 : kvs.length < LIM := by
                  have a1 : l1.length + l2.length ≤ LIM := by rw [← List.length_append, ← e3]; exact hlim
                  have a2 : l1.length = ln.length + 1 := by rw [e6]; simp
                  omega
                exact ⟨kvs, k, _, rfl, x5.h _ _ (x4.s _ _ ha), k2, lim_lt hlt9, B5, _, _, ys, l1, (xx.trans y5).wrh hDa k1, k1, upd_same, hy2, hsp, e1, n1, fun w => by rw [n2, hmem, e6]; simp⟩
            · cases hky
        · rw [if_neg (by decide)]
          obtain ⟨k1, k2⟩ := keepD (x2.trans x3)
          exact ⟨B3, kvs, dn, rs, ln, xx.trans (x2.trans x3), k1, k2, hy2, hdr, hln, hnd, hmem⟩
      · refine .inl ⟨j2 (by omega), ?_⟩
        rw [List.drop_eq_nil_of_le (by omega)] at hcc
        cases hcc
        rw [List.append_nil] at hdr
        subst hdr
        rw [hall] at hln
        cases hln
        refine ⟨Da, kvs, rfl, hl', ?_⟩
        have e : kvs.length = (nubL all).length := by rw [← List.length_map (f := (·.1)) (as := kvs)]; exact nub_count hnd hmem
        rw [e]
        exact q9 _ B' H' (x1.trans xx) (Dn.int _)
    · cases ez
end
end DL
set_option Elab.async false
set_option linter.all false
set_option maxRecDepth 100000
set_option maxHeartbeats 4000000
/-! The data layer: sorted(xs), xs a short list of pairs of small numbers; p > q of pairs. -/
namespace DL
open PySem PySem.Spec PyProof.Rows L2

/-- a pair of numbers from 0 below 64 as one number -/
def codP : D → Option Int
  | .tuple [.int a, .int b] => if (0 ≤ a ∧ a < 64) ∧ (0 ≤ b ∧ b < 64) then some (a * 64 + b) else none
  | _ => none
def codsP : List D → Option (List Int)
  | [] => some []
  | d :: ds => (codP d).bind fun c => (codsP ds).map fun cs => c :: cs
def dcdP (c : Int) : D := .tuple [.int (c / 64), .int (c % 64)]
def srtP : List D → Option (List D)
  | [.list ds] => (codsP ds).bind fun cs => if cs.length < 64 then some ((srtI cs).map dcdP) else none
  | _ => none
/-- what a tracked pair says -/
def cdV (H : Hp) : V → Int
  | .ref t => match H t with
    | some (.tup [V.int a, V.int b]) => a * 64 + b
    | _ => 0
  | _ => 0
def IsPr (H : Hp) (x : V) : Prop := ∃ t a b, x = .ref t ∧ H t = some (.tup [V.int a, V.int b]) ∧ (0 ≤ a ∧ a < 64) ∧ (0 ≤ b ∧ b < 64)
theorem IsPr.cd {H : Hp} {x : V} (h : IsPr H x) : ∃ t a b, x = .ref t ∧ H t = some (.tup [V.int a, V.int b]) ∧ (0 ≤ a ∧ a < 64) ∧ (0 ≤ b ∧ b < 64) ∧ cdV H x = a * 64 + b := by
  obtain ⟨t, a, b, rfl, h1, h2, h3⟩ := h
  refine ⟨t, a, b, rfl, h1, h2, h3, ?_⟩
  show (match H t with | some (.tup [V.int a, V.int b]) => a * 64 + b | _ => 0) = _
  rw [h1]
theorem cods_vals {K : PySem.W.Frag} {H : Hp} : ∀ {xs : List V} {ds : List D} {cs : List Int}, DnAll K H xs ds → codsP ds = some cs → (∀ x ∈ xs, IsPr H x) ∧ xs.map (cdV H) = cs
  | _, _, _, .nil, h => by
    cases h
    exact ⟨fun x hx => (by cases hx), rfl⟩
  | _, _, cs, .cons (v := v) (d := d) (ds := rs) a t, h => by
    unfold codsP at h
    cases hc : codP d with
    | none => rw [hc] at h; cases h
    | some c =>
      rw [hc] at h
      cases hr : codsP rs with
      | none => rw [hr] at h; cases h
      | some l =>
        rw [hr] at h
        cases h
        obtain ⟨h1, h2⟩ := cods_vals t hr
        unfold codP at hc
        split at hc
        · rename_i i j
          split at hc
          · rename_i hb
            cases hc
            cases a with
            | tup s a' =>
              rename_i p us
              have e : us = [V.int i, V.int j] := DnAll.ints (ns := [i, j]) a'
              rw [e] at s
              have hp : IsPr H (.ref p) := ⟨p, i, j, rfl, s, hb.1, hb.2⟩
              refine ⟨fun x hx => ?_, ?_⟩
              · rcases List.mem_cons.mp hx with e | e
                · subst e; exact hp
                · exact h1 x e
              · rw [List.map_cons, h2]
                congr 1
                show (match H p with | some (.tup [V.int a, V.int b]) => a * 64 + b | _ => 0) = _
                rw [s]
          · cases hc
        · cases hc
theorem dn_pairs {K : PySem.W.Frag} {H : Hp} : ∀ {ys : List V}, (∀ x ∈ ys, IsPr H x) → DnAll K H ys ((ys.map (cdV H)).map dcdP)
  | [], _ => .nil
  | y :: ys, h => by
    refine .cons ?_ (dn_pairs fun x hx => h x (List.mem_cons_of_mem _ hx))
    obtain ⟨t, a, b, rfl, h1, h2, h3, h4⟩ := (h y List.mem_cons_self).cd
    have e : dcdP (cdV H (.ref t)) = .tuple ([a, b].map PyData.int) := by
      rw [h4]
      unfold dcdP
      rw [show (a * 64 + b) / 64 = a by omega, show (a * 64 + b) % 64 = b by omega]
      rfl
    rw [e]
    exact .tup h1 (DnAll.of_ints [a, b])
section
variable {X : Cx} {e : Expr} {es : List Expr} {p pos : Pos} {G : Gd} {ow : List Nat} {fs : Env → Rs (List D)}
theorem n_sortedP (hm : X.mg "sorted" = none) (ha : PA X (e :: es) (cA G ow 1 fs)) (hg : Gl X "sorted" := by rfl) (he : starEach (e :: es) X.env = (false, eval e X.env) :: starEach es X.env := by rfl) (hpl : (backTo pos (starEach es X.env)).any (·.1) = false := by rfl) (hK : X.K = G.K := by rfl) :
    PE X (.Call (.Name "sorted" p) (e :: es) [] pos) (cN G ow fun γ => (fs γ).bind fun ds => oR (srtP ds)) :=
  (pe_callB (hK ▸ cr_sortT (d := 2) (B := 64) (by decide)) hg hm (by decide +kernel) ha (by decide) (by decide) he hpl).impD fun σ H Q ⟨B, γ, I, q⟩ => ⟨B, γ, I, q.bind.imp fun ds q vs B1 H1 x1 hvs => by
    obtain ⟨z, ez, q⟩ := q.oR
    unfold srtP at ez
    split at ez
    · rename_i es'
      cases hi : codsP es' with
      | none => rw [hi] at ez; cases ez
      | some cs =>
        rw [hi] at ez
        replace ez : (if cs.length < 64 then some ((srtI cs).map dcdP) else none) = some z := ez
        split at ez
        · rename_i hlt
          cases ez
          cases hvs with
          | cons h t =>
            cases t
            obtain ⟨p', us, rfl, h1, h2⟩ := DnF.items x1.s h
            obtain ⟨k1, k2⟩ := cods_vals (DnAll.of_paired h2) hi
            have hl : us.length < 64 := by rw [← List.length_map (f := cdV B1), k2]; exact hlt
            refine ⟨p', us, rfl, .inl h1, hl, fun x hx => ?_, fun ys r hp hs hr => ?_⟩
            · obtain ⟨t, a, b, rfl, g1, g2, g3, g4⟩ := (k1 x hx).cd
              refine ⟨[a, b], ⟨t, rfl, .inl (.inl (x1.s _ _ g1))⟩, rfl, fun m hm => ?_⟩
              simp only [List.mem_cons, List.not_mem_nil, or_false] at hm
              rcases hm with rfl | rfl
              · exact g2
              · exact g3
            · have ky : ∀ y ∈ ys, IsPr B1 y := fun y hy => k1 y (hp.mem_iff.mp hy)
              have e9 : ys.map (cdV B1) = srtI cs := by
                refine sorted_uniq ?_ ?_ (srtI_sorted cs)
                · rw [← k2]
                  exact (hp.map _).trans (srtI_perm _).symm
                · rw [List.pairwise_map]
                  refine List.Pairwise.imp_of_mem ?_ hs
                  intro x y hx hy hxy
                  obtain ⟨t, a, b, rfl, g1, g2, g3, g4⟩ := (ky x hx).cd
                  obtain ⟨t', a', b', rfl, g1', g2', g3', g4'⟩ := (ky y hy).cd
                  have := hxy [a, b] [a', b'] ⟨t, rfl, .inl (.inl (x1.s _ _ g1))⟩ ⟨t', rfl, .inl (.inl (x1.s _ _ g1'))⟩
                  rw [code_pair, code_pair] at this
                  rw [g4, g4']
                  exact this
              rw [← e9] at q
              exact q r _ B1 _ (x1.trans (.hid x1.s hr)) (x1.h.free hr) (same_none x1.s hr) upd_same (dn_pairs ky)
        · cases ez
    · cases ez⟩
end
/-! p > q -/
def gtT : D → D → Option D
  | .tuple [.int a, .int b], .tuple [.int c, .int d] => some (.bool (if a = c then decide (d < b) else decide (c < a)))
  | _, _ => none
def rGtP (K : PySem.W.Frag) : R2 := fun x y H Q => ∃ (p q : Addr) (a b c d : Int), x = .ref p ∧ y = .ref q ∧ SqT K H p ([a, b].map V.int) ∧ SqT K H q ([c, d].map V.int) ∧ Q (.bl (if a = c then decide (d < b) else decide (c < a))) H
theorem op_gtP {X : Cx} (hu : X.A.units < cLine) : OpR X (compareOp .Gt) (rGtP X.K) := by
  intro pins s σ H x y v u Q I rx ry h
  obtain ⟨p, q, a, b, c, d, rfl, rfl, ha, hb, h⟩ := h
  cases rx
  cases ry
  obtain ⟨its, r1, p1, _⟩ := I.tuple ha
  obtain ⟨its2, r2, p2, _⟩ := I.tuple hb
  have i1 : IntsAre its [a, b] := Vals.ints r1
  have i2 : IntsAre its2 [c, d] := Vals.ints r2
  have e1 : its.toArray.size = 2 := by rw [List.size_toArray]; exact i1.length
  have e2 : its2.toArray.size = 2 := by rw [List.size_toArray]; exact i2.length
  have at1 : ∀ j (h1 : j < its.toArray.size), ∃ t, its.toArray[j] = .int (([a, b] : List Int).getD j 0) t := fun j h1 => PyProof.Rows.IntsAre.int_at i1 _ _ (by simp at h1; simp [h1])
  have at2 : ∀ j (h1 : j < its2.toArray.size), ∃ t, its2.toArray[j] = .int (([c, d] : List Int).getD j 0) t := fun j h1 => PyProof.Rows.IntsAre.int_at i2 _ _ (by simp at h1; simp [h1])
  have R := PySem.SeqAt.RcOp.tuples_gt (A := X.A) (s := s) (e := fun j => decide (([a, b] : List Int).getD j 0 = ([c, d] : List Int).getD j 0)) (r := fun j => decide (([c, d] : List Int).getD j 0 < ([a, b] : List Int).getD j 0)) p1 p2 hu (fun j h1 h2 => by
    obtain ⟨t, et⟩ := at1 j h1
    obtain ⟨t', et'⟩ := at2 j h2
    rw [et, et']
    have z : (([a, b] : List Int).getD j 0 == ([c, d] : List Int).getD j 0) = decide (([a, b] : List Int).getD j 0 = ([c, d] : List Int).getD j 0) := by
      by_cases q : ([a, b] : List Int).getD j 0 = ([c, d] : List Int).getD j 0
      · rw [decide_eq_true q]; exact beq_iff_eq.mpr q
      · rw [decide_eq_false q]; exact beq_eq_false_iff_ne.mpr q
    rw [← z]
    exact SeqAt.EqAt.int_int _ _ _ _) (fun j h1 h2 _ => by
    obtain ⟨t, et⟩ := at1 j h1
    obtain ⟨t', et'⟩ := at2 j h2
    rw [et, et']
    exact fun _ _ _ _ h => PyProof.Rows.gt_int h)
  rw [e1, e2] at R
  have hv : PySem.SeqAt.firstLt (fun j => decide (([a, b] : List Int).getD j 0 = ([c, d] : List Int).getD j 0)) (fun j => decide (([c, d] : List Int).getD j 0 < ([a, b] : List Int).getD j 0)) (decide (2 > 2)) (List.range (min 2 2)) = if a = c then decide (d < b) else decide (c < a) := by
    show (if decide (a = c) = true then (if decide (b = d) = true then decide (2 > 2) else decide (d < b)) else decide (c < a)) = _
    by_cases h1 : a = c
    · rw [if_pos (decide_eq_true h1), if_pos h1]
      by_cases h2 : b = d
      · rw [if_pos (decide_eq_true h2)]
        subst h2
        simp
      · rw [if_neg (by simpa using h2)]
    · rw [if_neg (by simpa using h1), if_neg h1]
  rw [hv] at R
  have z : wpAny (model X.prog X.w) X.A (compareOp .Gt (.ref p) (.ref q)) (EP X pins σ Q) X.xe s := R X.prog X.w X.xe (EP X pins σ Q) ⟨.bl _, H, I, rfl, h⟩
  exact z
theorem hr_gtP {K : PySem.W.Frag} : HR K (rGtP K) gtT := by
  refine ⟨?_⟩; intro B H x y d e z Q s hx hy hz q
  unfold gtT at hz
  split at hz
  · rename_i i j k l
    cases hz
    obtain ⟨p, us, rfl, h1, h2⟩ := hx.tups s
    obtain ⟨p', us', rfl, h1', h2'⟩ := hy.tups s
    have e1 := DnAll.ints (ns := [i, j]) h2
    have e2 := DnAll.ints (ns := [k, l]) h2'
    rw [e1] at h1
    rw [e2] at h1'
    exact ⟨p, p', i, j, k, l, rfl, rfl, h1, h1', q _ B H (.refl s) (.bl _)⟩
  · cases hz
def gtA (d e : D) : Option D := match gtD d e with
  | some z => some z
  | none => gtT d e
theorem gtA_or {d e z : D} (h : gtA d e = some z) : gtD d e = some z ∨ gtT d e = some z := by
  unfold gtA at h
  cases hg : gtD d e with
  | some w => rw [hg] at h; exact .inl h
  | none => rw [hg] at h; exact .inr h
section
variable {X : Cx} {a b : Expr} {pos : Pos} {G : Gd} {ow : List Nat} {f g : Env → Rs D}
theorem t_gtA {n : Nat} (hr : Room n X.A) (ha : PE X a (cV G ow 1 f)) (hb : PE X b (cV G ow 1 g)) (hK : X.K = G.K := by rfl) : PT X (.Compare a [.Gt] [b] pos) (cT G ow (b1 (b2 f g gtA) boolO)) := by
  have h : HP G.K (fun x y H Q => rI0 (fun i j => .bl (decide (j < i))) x y H Q ∨ rGtP G.K x y H Q) fun d e z => gtA d e = some z := (HP.or (hr_I0 (F := fun i j => .bool (decide (j < i))) fun _ _ _ => .bl _) hr_gtP).impP fun _ _ _ h => gtA_or h
  exact t_cmp h (OpR.or op_gt (hK ▸ op_gtP hr.units0)) (nomark _) ha hb
end
end DL
set_option Elab.async false
set_option linter.all false
set_option maxRecDepth 100000
set_option maxHeartbeats 4000000
/-! The data layer: x.extend(y), x and y own lists; x[k] op= e. -/
namespace DL
open PySem PySem.Spec PyProof.Rows L2
theorem get_listP {X : Cx} : PGet X (rIxL X.K) := by
  intro pins s σ H o i ov iv Q I ro ri h
  obtain ⟨p, xs, k, z, rfl, rfl, hq, he, q⟩ := h
  cases ro
  obtain ⟨t, rfl⟩ := ri
  obtain ⟨its, r, pl, hz⟩ := I.list hq
  obtain ⟨j, h1, h2, h3, h4, h5⟩ := atI_get he
  obtain ⟨w, ew, rw'⟩ := r.get h2
  have hl := r.length
  have hn := line63
  have fin : EP X pins σ Q w s := ⟨z, H, I, rw', q⟩
  by_cases h0 : 0 ≤ k
  · have hj : k.toNat = j := by
      rw [seqIndex_of h0 h5] at h1
      exact Option.some.inj h1
    exact wpAny_getItem_list pl.isList h0 (by omega) (by rw [hj]; simpa using ew) fin
  · have hj : (k + (its.toArray.size : Int)).toNat = j := by
      rw [seqIndex_neg (by omega) h4] at h1
      rw [List.size_toArray, ← hl]
      exact Option.some.inj h1
    exact wpAny_getItem_list_neg pl.isList (by omega) (by rw [List.size_toArray] <;> omega) (by omega) (by rw [hj]; simpa using ew) fin
def rExtendR : V → List V → Hp → VK → Prop := fun x vs H Q => ∃ l b xs zs, x = .ref l ∧ vs = [.ref b] ∧ H l = some (.lst xs) ∧ Rd H b (.lst zs) ∧ xs.length + zs.length ≤ sizeLine ∧ Q .non (upd H l (.lst (xs ++ zs)))
theorem mt_extendR {X : Cx} : MtM X "list.extend" rExtendR := by
  rintro pins s σ H x vs v us Q I rx rv ⟨l, b, xs, zs, rfl, rfl, m1, m2, hle, q⟩
  cases rx
  obtain ⟨u, rfl, ru⟩ := rv.one
  cases ru
  obtain ⟨_, as, n, ra, la, ea⟩ := I.lstM m1
  obtain ⟨_, bs, k, rb, lb, eb⟩ := Inv.rdM I m2
  have small : as.toArray.size + bs.toArray.size ≤ sizeLine := by simp only [List.size_toArray]; omega
  have short : ¬ (!as.toArray.isEmpty && Builtin.List.listTooLong (as.toArray.size + bs.toArray.size)) = true := by rw [notLongL small]; simp
  have road := AutoSeq1.list_extend_list_list_0 l as.toArray n b bs.toArray k short (by simp only [List.size_toArray]; omega) (by omega)
  refine call_meets F.slot_list_extend ⟨_, ea, rfl⟩ F.entry_list_extend (F.args_list_extend_2 _ _) road ⟨ea, eb, ?_⟩
  have more : (xs ++ zs).length ≤ sizeLine := by rw [List.length_append]; exact hle
  exact ⟨.non, upd H l (.lst (xs ++ zs)), I.lset (its' := as ++ bs) m1 ea (by simp) (ra.append rb) more, rfl, q⟩
/-! x * k, x a list that is kept -/
def rRepR : R2 := fun x y H Q => ∃ l k xs, x = .ref l ∧ y = .int k ∧ Rd H l (.lst xs) ∧ 0 ≤ k ∧ k ≤ 1000000 ∧ xs.length * k.toNat ≤ sizeLine ∧ ∀ p, H p = none → Q (.ref p) (upd H p (.lst (List.replicate k.toNat xs).flatten))
theorem fold_arr (m : Nat) (as : List Value) : ∀ acc : List Value, List.foldl (fun a b => a ++ b) acc.toArray (List.replicate m as.toArray) = (acc ++ (List.replicate m as).flatten).toArray := by
  induction m with
  | zero => intro acc; simp
  | succ m ih =>
    intro acc
    rw [List.replicate_succ, List.foldl_cons, List.replicate_succ, List.flatten_cons, ← List.append_assoc, ← ih (acc ++ as)]
    congr 1
    simp
theorem op_repR {X : Cx} : OpR X (binaryOp .Mult) rRepR := by
  rintro pins s σ H x y v u Q I rx ry ⟨l, k, xs, rfl, rfl, m1, k0, k1, hle, q⟩
  cases rx
  obtain ⟨t, rfl⟩ := ry
  obtain ⟨_, as, n, ra, la, ea⟩ := Inv.rdM I m1
  have small : as.toArray.size * k.toNat ≤ sizeLine := by simp only [List.size_toArray]; rw [← la]; exact hle
  have fits : ¬ (!Builtin.List.listFitsIndex k) = true := by rw [fitsIndex_both (by omega) (by omega)]; simp
  have cap : ¬ as.toArray.size * k.toNat > (2 ^ 63 - 1) / 8 := fun z => by
    have : (sizeLine : Nat) ≤ (2 ^ 63 - 1) / 8 := by decide
    omega
  have short : ¬ Builtin.List.listTooLong (as.toArray.size * k.toNat) = true := by rw [notLongL small]; simp
  have made : List.foldl (fun a b => a ++ b) #[] (List.replicate (if as.toArray.isEmpty = true then 0 else k.toNat) as.toArray) = (List.replicate k.toNat as).flatten.toArray := by
    have f := fold_arr (if as.toArray.isEmpty = true then 0 else k.toNat) as []
    rw [List.nil_append] at f
    rw [f]
    cases as with
    | nil => simp
    | cons a r => simp
  have road := AutoListH.list___mul___list_int_3 l as.toArray n k t fits cap short
  have back := int___rmul___int_list k t l as.toArray n
  rw [made] at road
  refine wpAny_binaryOp_repeat_ref (T := "list") (U := "int") (by decide) ⟨_, ea, rfl⟩ (fun z => typeIs_int z k t) noFill_list_mul F.fills_int_mul F.slot_int_rmul repeat_list F.slot_int_index.lookup ?_
  refine call_meets F.slot_int_rmul (typeIs_int s k t) F.entry_int_rmul (F.args_int_rmul_2 _ _) back ⟨ea, rfl, ⟨_, ea, rfl⟩, ?_⟩
  refine call_meets F.slot_list_mul ⟨_, ea, rfl⟩ F.entry_list_mul (F.args_list_mul_2 _ _) road ⟨ea, ?_⟩
  have more : (List.replicate k.toNat xs).flatten.length ≤ sizeLine := by rw [PyProof.Rows.lm_len_rep_flat, Nat.mul_comm]; exact hle
  exact ⟨.ref _, _, I.lnew (t' := s.toks) (ra.rep k.toNat) more, rfl, q _ I.fresh⟩
def repL : D → D → Option D
  | .list ds, .int k => if 0 ≤ k ∧ k ≤ 1000000 ∧ ds.length * k.toNat ≤ LIM then some (.list (List.replicate k.toNat ds).flatten) else none
  | _, _ => none
theorem hr_repL {K : PySem.W.Frag} : HR K rRepR repL := by
  refine ⟨?_⟩; intro B H x y d e z Q s hx hy hz q
  unfold repL at hz
  split at hz
  · rename_i ds k
    split at hz
    · rename_i hc
      cases hz
      obtain ⟨p, us, rfl, h1, h2⟩ := hx.items s
      have h3 : DnAll K B us ds := DnAll.of_paired (Paired.mapP h2 fun _ _ h => h)
      exact ⟨p, k, us, rfl, hy.int, h1, hc.1, hc.2.1, by rw [h3.length]; exact lim_le hc.2.2, fun l hl => q _ (upd B l (.lst (List.replicate k.toNat us).flatten)) _ (.new s hl) (.lst (.inl upd_same) ((h3.rep _).mono (same_new (same_none s hl))))⟩
    · cases hz
  · cases hz
def mulAD (d e : D) : Option D := match mulD d e with
  | some z => some z
  | none => repL d e
theorem mulAD_or {d e z : D} (h : mulAD d e = some z) : mulD d e = some z ∨ repL d e = some z := by
  unfold mulAD at h
  cases hg : mulD d e with
  | some w => rw [hg] at h; exact .inl h
  | none => rw [hg] at h; exact .inr h
theorem d_mulA {X : Cx} {a b : Expr} {pos : Pos} {G : Gd} {ow : List Nat} {f g : Env → Rs D} (ha : PE X a (cV G ow 1 f)) (hb : PE X b (cV G ow 1 g)) : PE X (.BinOp a .Mult b pos) (cV G ow 0 (b2 f g mulAD)) :=
  d_bin ((HP.or (hr_I (Cb := mulOk) (F := fun i j => .int (i * j)) (g := fun i j => .int (i * j)) (C := CMul) (fun i j h => by have h := of_decide_eq_true h; exact h) fun _ _ _ => .int _) hr_repL).impP fun _ _ _ h => mulAD_or h) (OpR.or op_mul op_repR) ha hb
section
variable {X : Cx} {e : Expr} {pos : Pos} {G : Gd} {ow owL : List Nat} {fe : Env → Rs D}
/-- what a list holds -/
def lstX : D → Option (List D)
  | .list ds => some ds
  | _ => none
/-- x.extend(e) -/
theorem s_extendV {x : Str} {p1 p2 p3 : Pos} (i : Nat) (he : PE X e (cV G ow 1 fe)) (hk : ow.getD i 0 = 1 := by rfl) (hi : X.N[i]? = some x := by rfl) (hv : Vis X.env.scope x := by first | exact Or.inl rfl | exact Or.inr (Or.inl rfl) | exact Or.inr (Or.inr rfl)) (hg : G.x = none := by rfl)
    (hd : (x == ("__debug__" : Str)) = false := by decide) (hcd : (x == ("__classdict__" : Str)) = false := by decide)
    (hbase : attributeBase (.Name x p1) "extend" X.env (eval (.Name x p1) X.env) = eval (.Name x p1) X.env := by rfl) (hst : starEach [e] X.env = (false, eval e X.env) :: starEach [] X.env := by rfl)
    (h1 : PE X (.Name x p1) (tVar i) → PA X [e] (tCons (cV G ow 1 fe) tNil) → PE X (.Call (.Attribute (.Name x p1) "extend" p2) [e] [] p3) (tBM X.K "list" rExtendR (tVar i) (tCons (cV G ow 1 fe) tNil)) := by
      exact fun h1 h2 => pe_bm PySem.F.plainAttrs_list PySem.F.slot_list_extend PySem.F.type_list_extend mt_extendR h1 h2)
    (hs : swapsWith (.Call (.Attribute (.Name x p1) "extend" p2) [e] [] p3) none pos.line X.env = pure false := by rfl) :
    PS X (.Expr (.Call (.Attribute (.Name x p1) "extend" p2) [e] [] p3) pos) (cS G ow ow owL (extS i (b1 fe lstX))) :=
  (ps_expr (h1 (pe_var hi hv hd hcd) (pa_cons he pa_nil hst)) hs).impD fun J σ H ⟨B, γ, I, q⟩ => by
    obtain ⟨ds, hgi, q⟩ := (OutP.lift I q).bind.lsE
    obtain ⟨p, xs, e1, e2, _⟩ := I.wr hg hk hgi
    refine ⟨.ref p, e1, .inl ⟨rfl, xs, .inl (.inl e2)⟩, B, γ, I, q.bind.bind.imp fun d q r B1 H1 x1 hr => ?_⟩
    obtain ⟨es, ees, q⟩ := q.oR
    obtain ⟨z, ez, q⟩ := q.oR
    unfold lstX at ees
    split at ees <;> try cases ees
    obtain ⟨p', xs', e1', e2', e3', wr⟩ := (I.mono x1).wr hg hk hgi
    rw [e1] at e1'
    cases e1'
    obtain ⟨r', ys, rfl, g1, g2⟩ := hr.items x1.s
    have g3 := DnAll.of_paired g2
    split at ez
    · rename_i hlt
      cases ez
      exact ⟨p, r', xs', ys, rfl, rfl, e2', g1, by rw [e3'.length, g3.length]; exact lim_le hlt, q B1 σ _ x1.b (wr _ _ (e3'.append g3))⟩
    · cases ez
/-- x[k] op= e -/
def atK (ds : List D) : D → Option D
  | .int n => atI ds n
  | _ => none
def augPut (i : Nat) (fi fe : Env → Rs D) (F : D → D → Option D) : Env → Out := fun γ => liftS ((lsE γ i).bind fun ds => (fi γ).bind fun k => (oR (atK ds k)).bind fun d => (fe γ).bind fun z => (oR (F d z)).bind fun w => oR (putL ds w k)) γ fun es => .nx (γ.set i (some (.list es)))
theorem s_augS {x : Str} {ix : Expr} {p1 p2 : Pos} {op : Operator} {r : R2} {F : D → D → Option D} {fi : Env → Rs D} (i : Nat) (hr : HR G.K r F) (ho : OpR X (inplaceOp op) r) (hix : PE X ix (cV G ow 1 fi)) (he : PE X e (cV G ow 1 fe)) (hk : ow.getD i 0 = 1 := by rfl) (hi : X.N[i]? = some x := by rfl)
    (hv : Vis X.env.scope x := by first | exact Or.inl rfl | exact Or.inr (Or.inl rfl) | exact Or.inr (Or.inr rfl)) (hg : G.x = none := by rfl)
    (hd : (x == ("__debug__" : Str)) = false := by decide) (hcd : (x == ("__classdict__" : Str)) = false := by decide) (hK : X.K = G.K := by rfl)
    (ha : ∀ ov iv new, augStore ix ov iv new = (do holding [new, ov, iv] (setItem ov iv new); release [new, ov, iv] []; pure .next) := by intros; rfl) :
    PS X (.AugAssign (.Subscript (.Name x p1) ix p2) op e pos) (cS G ow ow owL (augPut i fi fe F)) :=
  (ps_augS (tip := r) (pe_var hi hv hd hcd) hix (hK ▸ get_listP) he ho set_list ha).impD fun J σ H ⟨B, γ, I, q⟩ => by
    obtain ⟨ds, hgi, q⟩ := (OutP.lift I q).bind.lsE
    obtain ⟨p, xs, e1, e2, e3, _⟩ := I.wr hg hk hgi
    refine ⟨.ref p, e1, B, γ, I, q.bind.imp fun k q u B1 H1 x1 hu => ?_⟩
    obtain ⟨d, ed, q⟩ := q.bind.oR
    obtain ⟨p', xs', e1', e2', e3', _⟩ := (I.mono x1).wr hg hk hgi
    rw [e1] at e1'
    cases e1'
    unfold atK at ed
    split at ed <;> try cases ed
    rename_i n _
    obtain ⟨v, a1, a2⟩ := atI_len e3'.paired ed
    refine ⟨p, xs', n, v, rfl, hu.int, .inl (.inl e2'), a1, B1, γ, I.mono x1, q.bind.mono x1 fun z q y B2 H2 x2 hy => ?_⟩
    obtain ⟨w, ew, q⟩ := q.bind.oR
    refine hr.run x2.s (DnF.of (a2.mono x2.b)) hy ew fun w' B3 H3 x3 hw' => ?_
    obtain ⟨es, ees, q⟩ := q.oR
    obtain ⟨p'', xs'', e1'', e2'', e3'', wr⟩ := (I.mono ((x1.trans x2).trans x3)).wr hg hk hgi
    rw [e1] at e1''
    cases e1''
    replace ees : (ixN ds.length n).map (fun j => ds.set j w) = some es := ees
    cases hj : ixN ds.length n with
    | none => rw [hj] at ees; cases ees
    | some j =>
      rw [hj] at ees
      cases ees
      exact ⟨p, xs'', n, j, rfl, hu.int, e2'', by rw [e3''.length]; exact hj, q B3 σ _ ((x1.trans x2).trans x3).b (wr _ _ (e3''.set hw' j))⟩
end
end DL
set_option Elab.async false
set_option linter.all false
set_option maxRecDepth 100000
set_option maxHeartbeats 4000000
/-! The data layer: dicts of a def's own that are locked for good, and walked. -/
namespace DL
open PySem PySem.Spec PyProof.Rows L2
abbrev lkD (es : List (D × D)) : D := .dict [(.bool true, .dict es)]
def lkE (i : Nat) (γ : Env) : Option Env := match γ[i]? with
  | some (some (.dict es)) => some (γ.set i (some (lkD es)))
  | _ => none
/-- the statement runs with the dict of slot i locked for good -/
def lkS (i : Nat) (f : Env → Out) : Env → Out := fun γ => match lkE i γ with
  | some γ' => f γ'
  | none => .no
section
variable {G : Gd} {ow : List Nat} {B H : Hp} {σ : L2.St} {γ : Env}
theorem EnvR.lock (I : EnvR G ow B H σ γ) {i k : Nat} {d : D} (hx : G.x = none) (hk : ow.getD i 0 = k) (h34 : k = 3 ∨ k = 4) (hg : γ[i]? = some (some d)) :
    ∃ p u es, d = .dict es ∧ H p = some u ∧ Mut (some u) ∧ ∀ od, ∃ B', EnvR G (ow.set i 0) B' (upd H p (.frz od u)) σ (γ.set i (some (lkD es))) ∧ Same B B' := by
  obtain ⟨own, h1, h2, h3⟩ := I.v
  obtain ⟨v, e, r⟩ := h3 i _ hg
  rw [hk] at r
  obtain ⟨p, u, es, rfl, ed, hop, hu, mu, new⟩ : ∃ p u es, v = .ref p ∧ d = .dict es ∧ own i p ∧ H p = some u ∧ Mut (some u) ∧ ∀ od B', Same B B' → B' p = some (.frz od u) → Dn G.K B' (.ref p) (lkD es) := by
    rcases h34 with rfl | rfl
    · obtain ⟨p, kvs, es, a1, a2, a3, a4, a5⟩ := r
      exact ⟨p, _, es, a1, a2, a3, a4, trivial, fun od B' s e => .lkk e (DnKv.mono s a5)⟩
    · obtain ⟨p, kvs, es, a1, a2, a3, a4, a5⟩ := r
      exact ⟨p, _, es, a1, a2, a3, a4, trivial, fun od B' s e => .lkt e (DnKt.mono s a5)⟩
  subst ed
  obtain ⟨b1, b2, b3⟩ := h1 i p hop
  refine ⟨p, u, es, rfl, hu, mu, fun od => ?_⟩
  have sB : Same B (upd B p (.frz od u)) := same_new b1
  have sH : Same (upd B p (.frz od u)) (upd H p (.frz od u)) := fun a o z => by
    by_cases y : a = p
    · subst y; rw [upd_same] at z ⊢; exact z
    · rw [upd_ne y] at z ⊢; exact I.s a o z
  refine ⟨upd B p (.frz od u), ⟨sH, ⟨I.e.b.trans sB, fun a o z => ?_, sH, fun a z1 z2 => ?_⟩, by rw [List.length_set, I.len], (fun t z => by rw [hx] at z; cases z), fun j a => j ≠ i ∧ own j a, fun j a hj => ?_, fun j l a hj hl => h2 j l a hj.2 hl.2, fun j e' q => ?_⟩, sB⟩
  · have : a ≠ p := fun y => by subst y; rw [b2] at z; cases z
    rw [upd_ne this]; exact I.e.h a o z
  · have : a ≠ p := fun y => by subst y; exact z2.ne b2
    rw [upd_ne this]; exact I.e.n a z1 z2
  · have ne : a ≠ p := fun y => by subst y; exact hj.1 (h2 j i a hj.2 hop)
    obtain ⟨c1, c2, c3⟩ := h1 j a hj.2
    exact ⟨by rw [upd_ne ne]; exact c1, c2, c3.upd ne⟩
  · by_cases z : j = i
    · subst z
      have hj : j < γ.length := I.lt hg
      rw [List.getElem?_set_self hj] at q
      cases q
      refine ⟨_, e, ?_⟩
      rw [ow_set_self _ _ _ (.inr rfl)]
      exact new od _ sB upd_same
    · rw [List.getElem?_set_ne (Ne.symm z)] at q
      obtain ⟨w, e1, r⟩ := h3 j e' q
      refine ⟨w, e1, ?_⟩
      rw [ow_set_ne _ _ z]
      exact (r.keepH (H' := upd H p (.frz od u)) fun a ha => upd_ne fun y => by subst y; exact z (h2 j i _ ha hop)).monoB sB fun a ha => ⟨z, ha⟩
/-- an own thing goes from slot j to slot i -/
theorem EnvR.mv (I : EnvR G ow B H σ γ) {i j k : Nat} {d : D} (hx : G.x = none) (hk : ow.getD j 0 = k) (hij : i ≠ j) (hi : i < ow.length) (hg : γ[j]? = some (some d)) :
    ∃ v, σ[j]? = some (some v) ∧ EnvR G ((ow.set j 0).set i k) B H (σ.set i (some v)) ((γ.set j none).set i (some d)) := by
  obtain ⟨own, h1, h2, h3⟩ := I.v
  obtain ⟨v, e, r⟩ := h3 j _ hg
  refine ⟨v, e, I.s, I.e, by rw [List.length_set, List.length_set, List.length_set, I.len], (fun t z => by rw [hx] at z; cases z), fun l a => if l = i then own j a else if l = j then False else own l a, fun l a hl => ?_, fun l m a hl hm => ?_, fun l e' q => ?_⟩
  · dsimp only at hl
    split at hl
    · exact h1 j a hl
    · split at hl
      · exact hl.elim
      · exact h1 l a hl
  · dsimp only at hl hm
    split at hl
    · rename_i el
      split at hm
      · rename_i em; rw [el, em]
      · split at hm
        · exact hm.elim
        · rename_i em; exact absurd (h2 j m a hl hm).symm em
    · split at hl
      · exact hl.elim
      · rename_i el2
        split at hm
        · exact absurd (h2 l j a hl hm) el2
        · split at hm
          · exact hm.elim
          · exact h2 l m a hl hm
  · by_cases z : l = i
    · subst z
      have hl : l < (γ.set j none).length := by
        by_cases y : l < (γ.set j none).length
        · exact y
        · rw [List.getElem?_eq_none (by rw [List.length_set]; omega)] at q; cases q
      rw [List.getElem?_set_self hl] at q
      cases q
      rw [List.length_set] at hl
      refine ⟨v, List.getElem?_set_self (by rw [← I.len]; exact hl), ?_⟩
      rw [ow_set_self _ _ _ (.inl (by rw [List.length_set]; exact hi)), ← hk]
      exact r.monoB (.refl _) fun a ha => by dsimp only; rw [if_pos rfl]; exact ha
    · rw [List.getElem?_set_ne (Ne.symm z)] at q
      by_cases y : l = j
      · subst y
        rw [List.getElem?_set_self (I.lt hg)] at q
        cases q
      · rw [List.getElem?_set_ne (Ne.symm y)] at q
        obtain ⟨w, e1, r⟩ := h3 l e' q
        refine ⟨w, by rw [List.getElem?_set_ne (Ne.symm z)]; exact e1, ?_⟩
        rw [ow_set_ne _ _ z, ow_set_ne _ _ y]
        exact r.monoB (.refl _) fun a ha => by dsimp only; rw [if_neg z, if_neg y]; exact ha
end
section
variable {X : Cx} {G : Gd} {ow owN owL : List Nat} {st : Stmt} {f : Env → Out}
theorem s_lk (i : Nat) (h : PS X st (cS G (ow.set i 0) owN owL f)) (h34 : ow.getD i 0 = 3 ∨ ow.getD i 0 = 4 := by first | exact .inl rfl | exact .inr rfl) (hx : G.x = none := by rfl) : PS X st (cS G ow owN owL (lkS i f)) := ⟨fun pins s σ H J I q => by
  obtain ⟨B, γ, E, q⟩ := q
  unfold lkS lkE at q
  split at q
  · rename_i γ' hγ
    split at hγ
    · rename_i es hg
      cases hγ
      obtain ⟨p, u, es', e1, hu, mu, hl⟩ := E.lock hx rfl h34 hg
      cases e1
      obtain ⟨od, I1⟩ := I.lock hu mu
      obtain ⟨B', E', s'⟩ := hl od
      exact h.run pins s σ _ J I1 ⟨B', _, E', OutP.mono s' q⟩
    · cases hγ
  · exact q.elim⟩
end
/-! walking it -/
theorem dn_kD {K : PySem.W.Frag} {B : Hp} (k : Key) : Dn K B (kV k) (kD k) := by cases k <;> constructor
theorem dn_kDs {K : PySem.W.Frag} {B : Hp} : ∀ ks : List Key, DnAll K B (ks.map kV) (ks.map kD)
  | [] => .nil
  | k :: ks => .cons (dn_kD k) (dn_kDs ks)
theorem Ext.show {B H : Hp} {q : Addr} {xs : List V} (s : Same B H) (hq : H q = some (.tup xs)) : ∃ B2, Ext B H B2 H ∧ B2 q = some (.tup xs) := by
  cases hb : B q with
  | some o =>
    have := s q o hb
    rw [hq] at this
    cases this
    exact ⟨B, .refl s, hb⟩
  | none =>
    refine ⟨upd B q (.tup xs), ⟨same_new hb, .refl _, fun a u z => ?_, fun a z1 z2 => ?_⟩, upd_same⟩
    · by_cases y : a = q
      · subst y; rw [upd_same] at z; rw [hq]; exact z
      · rw [upd_ne y] at z; exact s a u z
    · have : a ≠ q := fun y => by
        subst y
        obtain ⟨o, e, n⟩ := z2
        rw [hq] at e
        cases e
        exact n _ rfl
      rw [upd_ne this]; exact z1
theorem kv_at {K : PySem.W.Frag} {B : Hp} : ∀ {kvs : List (Key × V)} {es : List (D × D)} {i : Nat} {k : Key} {v : V}, DnKv K B kvs es → kvs[i]? = some (k, v) → ∃ d, es[i]? = some (kD k, d)
  | _, _, 0, _, _, .cons a t, h => by cases h; exact ⟨_, rfl⟩
  | _, _, i + 1, _, _, .cons a t, h => kv_at (i := i) t (by simpa using h)
theorem kt_at {K : PySem.W.Frag} {B : Hp} : ∀ {kvs : List (List Key × V)} {es : List (D × D)} {i : Nat} {k : List Key} {v : V}, DnKt K B kvs es → kvs[i]? = some (k, v) → ∃ d, es[i]? = some (.tuple (k.map kD), d)
  | _, _, 0, _, _, .cons a t, h => by cases h; exact ⟨_, rfl⟩
  | _, _, i + 1, _, _, .cons a t, h => kt_at (i := i) t (by simpa using h)
def lkO : D → Option (List D)
  | .dict [(.bool true, .dict es)] => some (es.map (·.1))
  | _ => none
theorem kv_nob {K : PySem.W.Frag} {B : Hp} {kvs : List (Key × V)} {d : D} (h : DnKv K B kvs [(.bool true, d)]) : False := by
  generalize e : [((.bool true : D), d)] = es at h
  cases h with
  | nil => cases e
  | @cons k _ _ _ _ _ _ =>
    injection e with e1 _
    injection e1 with e2 _
    cases k <;> cases e2
theorem jw_lkk {K : PySem.W.Frag} {B : Hp} {a : Addr} {o : Obj} {kvs : List (Key × V)} {es : List (D × D)} (h : B a = some (.frz o (.dK kvs))) (hd : DnKv K B kvs es) : JW K B (Itk a o kvs) (es.map (·.1)) := fun B' H' s s' i => by
  have hH := s' _ _ (s _ _ h)
  have hl := kv_len hd
  refine ⟨fun d e => ?_, fun hi => ⟨hH, by rw [List.length_map] at hi; omega⟩⟩
  have hi : i < kvs.length := by
    have := (List.getElem?_eq_some_iff.mp e).1
    rw [List.length_map] at this
    omega
  refine ⟨⟨hH, hi⟩, fun x H2 hy => ?_⟩
  obtain ⟨rfl, k, v, e1, rfl⟩ := hy
  obtain ⟨d', e2⟩ := kv_at hd e1
  rw [List.getElem?_map, e2] at e
  cases e
  exact ⟨B', .refl s', dn_kD k⟩
theorem jw_lkt {K : PySem.W.Frag} {B : Hp} {a : Addr} {o : Obj} {kvs : List (List Key × V)} {es : List (D × D)} (h : B a = some (.frz o (.dT kvs))) (hd : DnKt K B kvs es) : JW K B (Itkt a o kvs) (es.map (·.1)) := fun B' H' s s' i => by
  have hH := s' _ _ (s _ _ h)
  have hl := kt_len hd
  refine ⟨fun d e => ?_, fun hi => ⟨hH, by rw [List.length_map] at hi; omega⟩⟩
  have hi : i < kvs.length := by
    have := (List.getElem?_eq_some_iff.mp e).1
    rw [List.length_map] at this
    omega
  refine ⟨⟨hH, hi⟩, fun x H2 hy => ?_⟩
  obtain ⟨rfl, k, v, q, e1, rfl, hq⟩ := hy
  obtain ⟨d', e2⟩ := kt_at hd e1
  rw [List.getElem?_map, e2] at e
  cases e
  obtain ⟨B2, x2, e3⟩ := Ext.show s' hq
  exact ⟨B2, x2, .tup e3 (dn_kDs k)⟩
section
variable {X : Cx} {tg iter : Expr} {G : Gd} {ow : List Nat} {f : Env → Rs D}
theorem i_lk (ha : PE X iter (cV G ow 0 f)) : PI X tg iter (cI G ow fun γ => (f γ).bind fun d => oR (lkO d)) := (pi_keys ha).impD fun σ H R ⟨B, γ, I, q⟩ => ⟨B, γ, I, q.bind.imp fun d q v B1 H1 x1 hv => by
  obtain ⟨z, ez, q⟩ := q.oR
  unfold lkO at ez
  split at ez
  · cases ez
    have hv' : Dn G.K B1 v (lkD _) := hv
    cases hv' with
    | lkk a b => exact ⟨_, _, rfl, .inl ⟨_, x1.s _ _ a, q _ B1 H1 x1 (jw_lkk a b)⟩⟩
    | lkt a b => exact ⟨_, _, rfl, .inr ⟨_, x1.s _ _ a, q _ B1 H1 x1 (jw_lkt a b)⟩⟩
    | dic a b => exact (kv_nob b).elim
    | dct a b => cases b
  · cases ez⟩
end
/-! asking it -/
def valL3 (dd kk : D) : Option (Option D) := match dd with
  | .dict [(.bool true, .dict (e :: es))] => val3 (.dict (e :: es)) kk
  | _ => none
def valL4 (dd kk : D) : Option (Option D) := match dd with
  | .dict [(.bool true, .dict (e :: es))] => val4 (.dict (e :: es)) kk
  | _ => none
theorem ask_L3 : Ask valL3 0 := ⟨by
  intro G ow B H σ γ I i dd kk u hx hk hg r hr hu
  obtain ⟨own, h1, h2, h3⟩ := I.v
  obtain ⟨v, e, sr⟩ := h3 i _ hg
  rw [hk] at sr
  unfold valL3 at hr
  split at hr
  · rename_i e0 es
    have hv : Dn G.K B v (lkD (e0 :: es)) := sr
    unfold val3 at hr
    replace hr : (es3 (e0 :: es)).bind _ = _ := hr
    cases hv with
    | @lkk p od kvs _ a b =>
      obtain ⟨l, e2, rel⟩ := kv_rel b
      rw [e2, es3_mk] at hr
      replace hr : (keyO kk).map _ = _ := hr
      cases hkk : keyO kk with
      | none => rw [hkk] at hr; cases hr
      | some k =>
        rw [hkk] at hr
        cases hr
        refine ⟨p, valV kvs k, e, ?_, pr_val k rel⟩
        exact .inl ⟨kvs, k, .inr ⟨_, I.s _ _ a⟩, keyO_kV (H := B) hkk hu, rfl⟩
    | lkt a b =>
      cases b with
      | cons b1 b2 => cases hr
    | dic a b => exact (kv_nob b).elim
    | dct a b => cases b
  · cases hr⟩
theorem ask_L4 : Ask valL4 0 := ⟨by
  intro G ow B H σ γ I i dd kk u hx hk hg r hr hu
  obtain ⟨own, h1, h2, h3⟩ := I.v
  obtain ⟨v, e, sr⟩ := h3 i _ hg
  rw [hk] at sr
  unfold valL4 at hr
  split at hr
  · rename_i e0 es
    have hv : Dn G.K B v (lkD (e0 :: es)) := sr
    unfold val4 at hr
    replace hr : (es4 (e0 :: es)).bind _ = _ := hr
    cases hv with
    | lkk a b =>
      cases b with
      | @cons k _ _ _ _ b1 b2 => cases k <;> cases hr
    | @lkt p od kvs _ a b =>
      obtain ⟨l, e2, rel⟩ := kt_rel b
      rw [e2, es4_mk] at hr
      replace hr : (keyT kk).map _ = _ := hr
      cases hkk : keyT kk with
      | none => rw [hkk] at hr; cases hr
      | some k =>
        rw [hkk] at hr
        cases hr
        refine ⟨p, valV kvs k, e, ?_, pr_val k rel⟩
        unfold keyT at hkk
        split at hkk
        · cases hu with
          | tup ha hda =>
            rw [keysO_kV hda hkk] at ha
            exact .inr ⟨kvs, k, _, .inr ⟨_, I.s _ _ a⟩, rfl, I.s _ _ ha, rfl⟩
        · cases hkk
    | dic a b => exact (kv_nob b).elim
    | dct a b => cases b
  · cases hr⟩
/-! moving it -/
def mvS (i j : Nat) : Env → Out := fun γ => match γ[j]? with
  | some (some d) => .nx ((γ.set j none).set i (some d))
  | _ => .no
section
variable {X : Cx} {G : Gd} {ow ow' owL : List Nat} {x y : Str} {px py spos : Pos}
theorem s_mv (i j : Nat) (hN : X.N.Nodup) (hx : X.N[i]? = some x := by rfl) (hy : X.N[j]? = some y := by rfl) (hij : i ≠ j := by decide) (hi : i < ow.length := by decide) (hw : (ow.set j 0).set i (ow.getD j 0) = ow' := by rfl) (hl : Loc X.env.scope x := by first | exact .inl rfl | exact .inr rfl) (hg : G.x = none := by rfl)
    (hv : Vis X.env.scope y := by first | exact Or.inl rfl | exact Or.inr (Or.inl rfl) | exact Or.inr (Or.inr rfl)) (hd : (y == ("__debug__" : Str)) = false := by decide) (hcd : (y == ("__classdict__" : Str)) = false := by decide)
    (hs : swapsWith (.Name y py) (some (.Name x px)) spos.line X.env = pure false := by rfl) (hf : X.fn x = true ∨ X.env.scope.names.lookup x = some .local := by first | exact .inl rfl | exact .inr rfl | assumption) :
    PS X (.Assign [.Name x px] (.Name y py) spos) (cS G ow ow' owL (mvS i j)) :=
  (ps_set hN hx hl (pe_var hy hv hd hcd) hs hf).impD fun J σ H ⟨B, γ, I, q⟩ => by
    unfold mvS at q
    split at q
    · rename_i d hgj
      obtain ⟨v, e, I'⟩ := I.mv (i := i) hg rfl hij hi hgj
      refine ⟨v, e, ?_⟩
      rw [hw] at I'
      exact q B _ _ (.refl _) I'
    · exact q.elim
end
end DL
set_option Elab.async false
set_option linter.all false
set_option maxRecDepth 100000
set_option maxHeartbeats 4000000
/-! The data layer: {t: v} with one tuple as key; ts[::-1] of a tuple. -/
namespace DL
open PySem PySem.Spec PyProof.Rows L2
section
variable {X : Cx} {k v : Expr} {tk tv : TE} {pos : Pos}
def tD1 (tk tv : TE) : TE := fun σ H Q => ∀ p, H p = none → tk σ (upd H p (.dT [])) fun x H1 => tv σ H1 fun y H2 => H2 p = some (.dT []) ∧ ∃ ks b, x = .ref b ∧ H2 b = some (.tup (List.map kV ks)) ∧ Q (.ref p) (upd H2 p (.dT [(ks, y)]))
theorem pe_disp1T (hu : X.A.units < cLine) (hk : L2.PE X k tk) (hv : L2.PE X v tv) : L2.PE X (.Dict [some k] [v] pos) (tD1 tk tv) := by
  refine ⟨fun pins s σ H Q I q => ?_⟩
  have free := I.hok.fresh (Nat.le_refl s.heap.objs.size)
  have Inew := I.laid (a := s.heap.objs.size) (o := .dT []) (h' := s.heap.push { cls := .type "dict", data := .dict #[] }) (t' := s.toks) (fun _ _ z => Heap.get?_push_of_some _ z) (Nat.le_refl _) (dt_empty s.heap I.big)
  rw [arm_eval_Dict, zip_pairTrees [some k] [v] X.env pos rfl rfl, dictDisplay_pairs (pairTrees [some k] [v] X.env pos) (by simp [pairTrees]) (by simp [pairTrees])]
  refine wpAny_bind (wpAny_standAt (wpAny_bind ?_))
  unfold subDict
  refine wpAny_bind (wpAny_alloc (wpAny_bind (wpAny_holding ?_)))
  rw [if_pos (show (pairTrees [some k] [v] X.env pos).length ≤ 15 by simp [pairTrees])]
  refine wpAny_bind (pairTrees_cons_walk ?_)
  refine thn (hk.run pins _ σ _ _ Inew (q _ free)) fun uk s1 ⟨x, H1, I1, rx, q1⟩ => ?_
  refine thn (hv.run pins s1 σ H1 _ I1 q1) fun uv s2 ⟨y, H2, I2, ry, q2⟩ => ?_
  obtain ⟨e0, ks, b, rfl, eb, q3⟩ := q2
  refine pairTrees_nil_walk ?_
  obtain rfl : uk = Value.ref b := rx
  refine wpAny_holding (wpAny_bind ?_)
  rw [List.forIn_cons]
  refine wpAny_bind (wpAny_bind (tset hu I2 e0 (show 0 < sizeLine by decide) eb ry fun t It => wpAny_pure ?_))
  exact wpAny_pure (wpAny_pure (wpAny_pure (wpAny_pure ⟨.ref s.heap.objs.size, _, It, rfl, q3⟩)))
end
def dsp1 (kk d : D) : Option D := (keyT kk).map fun k => mk4 [(k, d)]
@[simp] abbrev sDisp1 (i : Nat) (fk fv : Env → Rs D) : Env → Out := fun γ => liftS ((fk γ).bind fun kk => (fv γ).bind fun d => oR (dsp1 kk d)) γ fun dd => .nx (γ.set i (some dd))
section
variable {X : Cx} {kx vx : Expr} {x : Str} {p' p1 pos : Pos} {G : Gd} {ow ow' owL : List Nat} {fk fv : Env → Rs D} {n : Nat}
theorem s_disp1T (i : Nat) (hr : Room n X.A) (hN : X.N.Nodup) (hk : L2.PE X kx (cV G ow 0 fk)) (hv : L2.PE X vx (cV G ow 0 fv)) (hw : ow.set i 4 = ow' := by rfl) (hlt : i < ow.length := by decide) (hi : X.N[i]? = some x := by rfl) (hx : Loc X.env.scope x := by first | exact .inl rfl | exact .inr rfl) (hg : G.x = none := by rfl)
    (hs : swapsWith (.Dict [some kx] [vx] pos) (some (.Name x p')) p1.line X.env = pure false := by rfl) (hf : X.fn x = true ∨ X.env.scope.names.lookup x = some .local := by first | exact .inl rfl | exact .inr rfl | assumption) :
    PS X (.Assign [.Name x p'] (.Dict [some kx] [vx] pos) p1) (cS G ow ow' owL (sDisp1 i fk fv)) :=
  (ps_set hN hi hx (pe_disp1T (by have := hr.un; omega) hk hv) hs hf).impD fun J σ H ⟨B, γ, I, q⟩ => fun p hp => by
    have x0 : Ext B H B (upd H p (.dT [])) := .hid I.s hp
    refine ⟨B, γ, I.mono x0, (OutP.lift I q).bind.mono x0 fun kk q u B1 H1 x1 hu => ⟨B1, γ, I.mono (x0.trans x1), q.bind.mono (x0.trans x1) fun d q w B2 H2 x2 hw2 => ?_⟩⟩
    obtain ⟨z, ez, q9⟩ := q.oR
    unfold dsp1 at ez
    cases hkk : keyT kk with
    | none => rw [hkk] at ez; cases ez
    | some ks =>
      rw [hkk] at ez
      cases ez
      have bp : B2 p = none := (x1.trans x2).n p (same_none I.s hp) ⟨_, upd_same, fun _ z => nomatch z⟩
      have hp2 : H2 p = some (.dT []) := (x1.trans x2).h _ _ upd_same
      have hu2 := Dn.mono x2.b hu
      unfold keyT at hkk
      split at hkk
      · cases hu2 with
        | tup ha hda =>
          rw [keysO_kV hda hkk] at ha
          refine ⟨hp2, ks, _, rfl, x2.s _ _ ha, ?_⟩
          have x3 : Ext B H B2 H2 := x0.trans (x1.trans x2)
          refine q9 B2 _ _ x3.b ?_
          rw [← hw]
          exact I.setO i hg hlt (x3.wrh hp bp) hp bp ⟨_, upd_same, fun _ z => nomatch z⟩ ⟨p, _, _, rfl, rfl, rfl, upd_same, .cons hw2 .nil⟩
      · cases hkk
end
/-! ts[::-1] -/
section
variable {prog : Program} {w : World} {A : Around} {E : Value → Shared → Prop} {s : Shared}
theorem tupPart {v : Value} {o : Option Int} {R : Option Int → Shared → Prop} (p : IsPart v o) (h : R o s) : wpAny (model prog w) A (Builtin.Slice.slicePartIndex v) R E s := by
  cases p with
  | none => exact PyProof.Rows.slicePart_none h
  | int i t => exact PyProof.Rows.slicePart_int h
theorem revPlaces (n : Nat) : Builtin.Slice.slicePlaces ((n : Int) - 1) (-1) (-1) = n := by
  unfold Builtin.Slice.slicePlaces
  have e : (- -1 : Int) = 1 := by decide
  have g : ¬ ((-1 : Int) > 0) := by decide
  rw [if_neg g, e, Int.ediv_one]
  split <;> omega
theorem fmC {α β : Type} {f g : α → Option β} : ∀ {l : List α}, (∀ a ∈ l, f a = g a) → l.filterMap f = l.filterMap g
  | [], _ => rfl
  | a :: l, h => by
    rw [List.filterMap_cons, List.filterMap_cons, h a List.mem_cons_self, fmC fun b hb => h b (List.mem_cons_of_mem _ hb)]
theorem revPick (xs : Array Value) : ((List.range xs.size).filterMap fun (j : Nat) => xs[((xs.size : Int) - 1 + (j : Int) * (-1)).toNat]?).toArray = xs.toList.reverse.toArray := by
  rw [← PySem.W.krv_pick xs]
  unfold slicePick
  rw [PySem.W.krv_bounds]
  show _ = ((sliceRange ((xs.size : Int) - 1) (-1) (-1)).filterMap (xs[·]?)).toArray
  rw [PySem.W.krv_sliceRange, List.filterMap_map]
  refine congrArg List.toArray (fmC fun j hj => ?_)
  have := List.mem_range.mp hj
  have e : ((xs.size : Int) - 1 + (j : Int) * (-1)).toNat = xs.size - 1 - j := by omega
  show xs[((xs.size : Int) - 1 + (j : Int) * (-1)).toNat]? = xs[xs.size - 1 - j]?
  rw [e]
theorem tupRev {t sl : Addr} {its : Array Value} {va vb vc : Value} {R : Value → Shared → Prop} (ht : IsTup s.heap t its) (hs : s.heap.IsSliceOf sl va vb vc) (pa : IsPart va none) (pb : IsPart vb none) (pc : IsPart vc (some (-1))) (hz : its.size ≤ sizeLine)
    (h : R (.ref s.heap.objs.size) { s with heap := s.heap.push { cls := .type "tuple", data := .seq its.toList.reverse.toArray } }) : wpAny (model prog w) A (getItem (.ref t) (.ref sl)) R E s := by
  have room : sizeOk (.seq its.toList.reverse.toArray) := by
    show its.toList.reverse.toArray.size ≤ sizeLine
    rw [List.size_toArray, List.length_reverse, Array.length_toList]
    exact hz
  obtain ⟨ob, g1, g2, g3⟩ := id hs
  have isS : s.TypeIs (.ref sl) "slice" := ⟨ob, g1, g2⟩
  unfold getItem
  refine wpAny_holding ?_
  refine wpAny_bind (wpAny_sequenceKey ht.typeIs (by decide) ?_)
  refine wpAny_bind (wpAny_callSpecial?_slot (name := Str.ofString "__getitem__") ht.typeIs PyProof.Rows.slot_tuple_getitem (wpAny_call_entry PyProof.Rows.slot_tuple_getitem ht.typeIs entry_tuple_getitem ?_ (args_tuple_getitem _ _)))
  show wpAny _ _ (Builtin.Tuple.tupleItemsOf (.ref t) >>= _) _ _ s
  refine wpAny_bind (tupleItemsOf_ ht (wpAny_bind (wpAny_typeOf isS ?_)))
  rw [if_pos (by decide)]
  unfold Builtin.Slice.sliceApplied Builtin.Slice.sliceFields
  refine wpAny_bind (wpAny_bind (wpAny_bind (wpAny_field g1 g3 (x := va) rfl (wpAny_bind (wpAny_field g1 g3 (x := vb) rfl (wpAny_bind (wpAny_field g1 g3 (x := vc) rfl (wpAny_pure ?_))))))))
  refine wpAny_bind (tupPart pc ?_)
  show wpAny _ _ (if ((-1 : Int) == 0) = true then _ else _) _ _ s
  rw [if_neg (by decide)]
  refine wpAny_bind (tupPart pa (wpAny_bind (tupPart pb (wpAny_bind (wpAny_pure ?_)))))
  show wpAny _ _ (pure ((its.size : Int) - 1, (-1 : Int), Builtin.Slice.slicePlaces ((its.size : Int) - 1) (-1) (-1))) _ _ s
  rw [revPlaces]
  refine wpAny_pure ?_
  have no : ¬ ((((its.size : Int) - 1 == 0) && ((-1 : Int) == 1) && (its.size == its.size)) = true) := by simp
  show wpAny _ _ (if (((its.size : Int) - 1 == 0) && ((-1 : Int) == 1) && (its.size == its.size)) = true then _ else _) _ _ s
  rw [if_neg no, revPick]
  exact wpAny_bind (m := Builtin.Tuple.tupleExact _) (wpAny_newObj_type (wpAny_pure ⟨_, rfl, wpAny_pure h⟩) room)
end
section
variable {X : Cx} {e : Expr} {te : TE}
def tRevT (K : PySem.W.Frag) (te : TE) : TE := fun σ H Q => te σ H fun x H1 => ∃ a xs, x = .ref a ∧ SqT K H1 a xs ∧ ∀ r, H1 r = none → Q (.ref r) (upd H1 r (.tup xs.reverse))
theorem pe_revT {k : Nat} {p1 p2 p3 pos : Pos} (he : L2.PE X e te) : L2.PE X (.Subscript e (.Slice none none (some (.UnaryOp .USub (.Constant (.int 1) k p1) p2)) p3) pos) (tRevT X.K te) := by
  refine ⟨fun pins s σ H Q I h0 => ?_⟩
  refine Subscript_ (thn (he.run pins s σ H _ I h0) fun v s1 ⟨x, H1, I1, r1, a, xs, ex, hx, q⟩ => ?_)
  subst ex
  cases r1
  have part : PO X (some (.UnaryOp .USub (.Constant (.int 1) k p1) p2)) (tPart (tUn (rU fun i => .int (-i)) (tC (.int 1)))) := po_some (pe_un un_neg pe_int)
  refine wpAny_Slice (thn (po_none.run pins s1 σ H1 (fun o H2 => o = none ∧ H2 = H1) I1 ⟨rfl, rfl⟩) fun va s2 ⟨oa, Ha, I2, pa, ea, fa⟩ => ?_)
  subst ea fa
  refine thn (po_none.run pins s2 σ Ha (fun o H2 => o = none ∧ H2 = Ha) I2 ⟨rfl, rfl⟩) fun vb s3 ⟨ob, Hb, I3, pb, eb, fb⟩ => ?_
  subst eb fb
  refine thn (part.run pins s3 σ Hb (fun o H2 => o = some (-1) ∧ H2 = Hb) I3 ⟨1, rfl, -1, rfl, rfl, rfl⟩) fun vc s4 ⟨oc, Hc, I4, pc, ec, fc⟩ => ?_
  subst ec fc
  have I5 : L2.Inv X pins σ Hc { s4 with heap := s4.heap.push { cls := .type "slice", data := .fields #[va, vb, vc] } } := I4.kept (t' := s4.toks) fun b o z => Heap.get?_push_of_some _ z
  obtain ⟨its, r, ht, hz⟩ := I5.tuple hx
  have len := r.length
  show wpAny (model X.prog X.w) X.A (subscriptTail e (.Slice none none (some (.UnaryOp .USub (.Constant (.int 1) k p1) p2)) p3) (.ref a) (.ref s4.heap.objs.size)) (EP X pins σ Q) X.xe { s4 with heap := s4.heap.push { cls := .type "slice", data := .fields #[va, vb, vc] } }
  refine tail_any (ops := [.ref a, .ref s4.heap.objs.size]) ht.typeIs (PyProof.Rows.slot_tuple_getitem.lookup) ?_ (by with_unfolding_all rfl)
  refine tupRev ht (Heap.IsSliceOf.new _ va vb vc) pa pb pc (by rw [List.size_toArray]; omega) ?_
  refine ⟨.ref _, _, I5.laid (t' := s4.toks) (o := .tup xs.reverse) (fun b o z => Heap.get?_push_of_some _ z) (Nat.le_refl _) ?_, rfl, q _ (I5.hok.fresh (Nat.le_refl _))⟩
  exact ⟨by rw [List.length_reverse]; exact hz, _, r.reverse, IsTup.new _ _⟩
end
def revTD : D → Option D
  | .tuple ds => some (.tuple ds.reverse)
  | _ => none
section
variable {X : Cx} {a : Expr} {pos : Pos} {G : Gd} {ow : List Nat} {f : Env → Rs D}
theorem d_revT {k : Nat} {p1 p2 p3 : Pos} (ha : L2.PE X a (cV G ow 0 f)) (hK : X.K = G.K := by rfl) :
    L2.PE X (.Subscript a (.Slice none none (some (.UnaryOp .USub (.Constant (.int 1) k p1) p2)) p3) pos) (cV G ow 0 (b1 f revTD)) :=
  (pe_revT ha).impD fun σ H Q ⟨B, γ, I, q⟩ => ⟨B, γ, I, q.bind.imp fun d q v B1 H1 x1 hv => by
    obtain ⟨z, ez, q9⟩ := q.oR
    unfold revTD at ez
    split at ez
    · cases ez
      have hv' : Dn G.K B1 v (.tuple _) := hv
      cases hv' with
      | tup h1 h2 =>
        rw [hK]
        refine ⟨_, _, rfl, .inl (.inl (x1.s _ _ h1)), fun r hr => q9 _ (upd B1 r _) _ (x1.trans (.new x1.s hr)) ?_⟩
        exact Dn.tup upd_same (DnAll.mono (same_new (same_none x1.s hr)) h2.reverse)
    · cases ez⟩
theorem d_tuprg1 {p p1 p2 : Pos} (hm : X.mg "tuple" = none) (hmr : X.mg "range" = none) (ha : L2.PE X a (cV G ow 1 f)) (hg : Gl X "tuple" := by rfl) (hgr : Gl X "range" := by rfl) (hc : X.calm = true := by rfl) (na : starEach [a] X.env = (false, eval a X.env) :: starEach [] X.env := by rfl)
    (nb : starEach [.Call (.Name "range" p1) [a] [] p2] X.env = (false, eval (.Call (.Name "range" p1) [a] [] p2) X.env) :: starEach [] X.env := by rfl) :
    L2.PE X (.Call (.Name "tuple" p) [.Call (.Name "range" p1) [a] [] p2] [] pos) (cV G ow 0 fun γ => (f γ).bind fun d => oR ((rgL1 d).map PyData.tuple)) :=
  (pe_tupRg hc hg hm (prg_1 hgr hmr ha (na := na)) (na := nb)).impD fun σ H Q ⟨B, γ, I, q⟩ => ⟨B, γ, I, q.bind.imp fun d q v B1 H1 x1 hv => by
    obtain ⟨z, ez, q9⟩ := q.oR
    unfold rgL1 at ez
    split at ez
    · rename_i j
      split at ez
      · rename_i hj
        cases ez
        exact ⟨j, hv.int, RgOk.of_le (by decide) (Int.le_trans hj.2 (by decide)) (by decide) hj.1, fun r hr => q9 _ (upd B1 r _) _ (x1.trans (.new x1.s hr)) (Dn.tup upd_same (rg_all 0 j))⟩
      · cases ez
    · cases ez⟩
end
end DL
set_option Elab.async false
set_option linter.all false
set_option maxRecDepth 100000
set_option maxHeartbeats 4000000
/-! The data layer: x in TUPLE, a written tuple of texts. -/
namespace DL
open PySem PySem.Spec PyProof.Rows L2
/-- the name of a written tuple of texts -/
def WTup (K : PySem.W.Frag) (mg : Str → Option Value) (x : Str) (ts : List Str) : Prop :=
  ∃ (a : Addr) (o : Obj) (its : Array Value) (n : Nat), mg x = some (.ref a) ∧ K.lookup a = some o ∧ o.cls = .type "tuple" ∧ o.data = .seq its n ∧ its.size ≤ sizeLine ∧ Vals (ts.map V.str) its.toList
theorem WTup.seq {K : PySem.W.Frag} {mg : Str → Option Value} {x : Str} {ts : List Str} (T : WTup K mg x ts) : ∃ a, mg x = some (.ref a) ∧ ∀ H, SqT K H a (ts.map V.str) := by
  obtain ⟨a, o, its, n, h1, h2⟩ := T
  exact ⟨a, h1, fun H => .inr ⟨o, its, n, h2⟩⟩
def inT (ts : List Str) (neg : Bool) : D → Option D
  | .str x => some (.bool (neg != decide (x ∈ ts)))
  | _ => none
theorem flat_strs (ts : List Str) : (ts.map V.str).all flatV = true := by
  rw [List.all_map, List.all_eq_true]
  exact fun _ _ => rfl
theorem inV_strs (x : Str) : ∀ ts : List Str, inV (.str x) (ts.map V.str) = decide (x ∈ ts)
  | [] => rfl
  | t :: ts => by
    have ih := inV_strs x ts
    unfold inV at ih ⊢
    rw [List.map_cons, List.any_cons, ih]
    show ((t == x) || decide (x ∈ ts)) = decide (x ∈ t :: ts)
    by_cases e : x = t
    · subst e
      simp
    · have e' : (t == x) = false := beq_eq_false_iff_ne.mpr fun z => e z.symm
      rw [e', Bool.false_or]
      exact decide_eq_decide.mpr (by simp [e])
section
variable {X : Cx} {a : Expr} {pos p : Pos} {G : Gd} {ow : List Nat} {f : Env → Rs D} {x : Str} {ts : List Str}
theorem d_inT (T : WTup X.K X.mg x ts) (ha : L2.PE X a (cV G ow 1 f)) (hg : Gl X x := by rfl) (hd : (x == ("__debug__" : Str)) = false := by decide) (hm : behindInMarks .In (.Name x p) = false := by rfl) :
    L2.PE X (.Compare a [.In] [.Name x p] pos) (cV G ow 0 (b1 f (inT ts false))) := by
  obtain ⟨d, h1, h2⟩ := T.seq
  refine (pe_cmpR (op_in_seq) ha (pe_glob (v := .ref d) hg h1 rfl hd) hm).impD fun σ H Q ⟨B, γ, I, q⟩ => ⟨B, γ, I, q.bind.imp fun e q v B1 H1 x1 hv => ?_⟩
  obtain ⟨z, ez, q9⟩ := q.oR
  unfold inT at ez
  split at ez
  · rename_i y
    cases ez
    refine ⟨d, _, rfl, .inr (h2 H1), by rw [hv.str]; rfl, flat_strs ts, q9 _ B1 H1 x1 ?_⟩
    rw [hv.str, inV_strs]
    simp
    exact Dn.bl _
  · cases ez
theorem d_notinT (T : WTup X.K X.mg x ts) (ha : L2.PE X a (cV G ow 1 f)) (hg : Gl X x := by rfl) (hd : (x == ("__debug__" : Str)) = false := by decide) (hm : behindInMarks .NotIn (.Name x p) = false := by rfl) :
    L2.PE X (.Compare a [.NotIn] [.Name x p] pos) (cV G ow 0 (b1 f (inT ts true))) := by
  obtain ⟨d, h1, h2⟩ := T.seq
  refine (pe_cmpR op_notIn_seq ha (pe_glob (v := .ref d) hg h1 rfl hd) hm).impD fun σ H Q ⟨B, γ, I, q⟩ => ⟨B, γ, I, q.bind.imp fun e q v B1 H1 x1 hv => ?_⟩
  obtain ⟨z, ez, q9⟩ := q.oR
  unfold inT at ez
  split at ez
  · rename_i y
    cases ez
    refine ⟨d, _, rfl, .inr (h2 H1), by rw [hv.str]; rfl, flat_strs ts, q9 _ B1 H1 x1 ?_⟩
    rw [hv.str, inV_strs]
    simp
    exact Dn.bl _
  · cases ez
theorem t_inT (T : WTup X.K X.mg x ts) (ha : L2.PE X a (cV G ow 1 f)) (hg : Gl X x := by rfl) (hd : (x == ("__debug__" : Str)) = false := by decide) (hm : behindInMarks .In (.Name x p) = false := by rfl) :
    PT X (.Compare a [.In] [.Name x p] pos) (cT G ow (b1 (b1 f (inT ts false)) boolO)) := by
  obtain ⟨d, h1, h2⟩ := T.seq
  refine (pt_cmpR op_in_seq ha (pe_glob (v := .ref d) hg h1 rfl hd) hm).impD fun σ H Q ⟨B, γ, I, q⟩ => ⟨B, γ, I, q.bind.bind.imp fun e q v B1 H1 x1 hv => ?_⟩
  obtain ⟨z, ez, q⟩ := q.oR
  obtain ⟨k, ek, q9⟩ := q.oR
  unfold inT at ez
  split at ez
  · rename_i y
    cases ez
    cases ek
    refine ⟨d, _, rfl, .inr (h2 H1), by rw [hv.str]; rfl, flat_strs ts, _, rfl, ?_⟩
    rw [hv.str, inV_strs]
    simpa using q9 B1 H1 x1
  · cases ez
theorem t_notinT (T : WTup X.K X.mg x ts) (ha : L2.PE X a (cV G ow 1 f)) (hg : Gl X x := by rfl) (hd : (x == ("__debug__" : Str)) = false := by decide) (hm : behindInMarks .NotIn (.Name x p) = false := by rfl) :
    PT X (.Compare a [.NotIn] [.Name x p] pos) (cT G ow (b1 (b1 f (inT ts true)) boolO)) := by
  obtain ⟨d, h1, h2⟩ := T.seq
  refine (pt_cmpR op_notIn_seq ha (pe_glob (v := .ref d) hg h1 rfl hd) hm).impD fun σ H Q ⟨B, γ, I, q⟩ => ⟨B, γ, I, q.bind.bind.imp fun e q v B1 H1 x1 hv => ?_⟩
  obtain ⟨z, ez, q⟩ := q.oR
  obtain ⟨k, ek, q9⟩ := q.oR
  unfold inT at ez
  split at ez
  · rename_i y
    cases ez
    cases ek
    refine ⟨d, _, rfl, .inr (h2 H1), by rw [hv.str]; rfl, flat_strs ts, _, rfl, ?_⟩
    rw [hv.str, inV_strs]
    simpa using q9 B1 H1 x1
  · cases ez
end
end DL
set_option Elab.async false
set_option linter.all false
set_option maxRecDepth 100000
set_option maxHeartbeats 4000000
/-! The data layer: a range kept in a name, and walked. -/
namespace DL
open PySem PySem.Spec PyProof.Rows L2
abbrev rngD (lo hi : Int) : D := .dict [(.bool false, .tuple [.int lo, .int hi])]
/-- range(a, b) as a value -/
def rgV2 : List D → Option D
  | [.int i, .int j] => if (-RLIM ≤ i ∧ i ≤ RLIM) ∧ (-RLIM ≤ j ∧ j ≤ RLIM) then some (rngD i j) else none
  | _ => none
def rngO : D → Option (List D)
  | .dict [(.bool false, .tuple [.int i, .int j])] => if (-RLIM ≤ i ∧ i ≤ RLIM) ∧ (-RLIM ≤ j ∧ j ≤ RLIM) then some (rgD i j) else none
  | _ => none
section
variable {X : Cx} {tg e : Expr} {te : TE}
def iRngV (te : TE) : TI := fun σ H R => te σ H fun x H1 => ∃ a lo hi, x = .ref a ∧ H1 a = some (.rng lo hi) ∧ (-(2 ^ 62) ≤ lo ∧ lo < 2 ^ 62 ∧ -(2 ^ 62) ≤ hi ∧ hi < 2 ^ 62) ∧ R (Itr lo (hi - lo).toNat) H1
theorem pi_rngV (he : L2.PE X e te) : PI X tg e (iRngV te) := by
  refine ⟨fun pins s σ H R I h => ?_⟩
  refine thn (he.run pins s σ H _ I h) fun v s1 ⟨x, H1, I1, r1, a, lo, hi, ex, ha, ⟨b1, b2, b3, b4⟩, q⟩ => ?_
  subst ex
  cases r1
  obtain ⟨t, u, w, hg⟩ := (show ObjOk X.prog X.w H1 s1.heap a (.rng lo hi) from I1.hok a _ ha)
  refine wpAny_pyIter_range (show IsRange s1.heap a lo hi 1 t u w from hg) (small_one b1 b2 b3 b4) ?_
  refine ⟨s1.heap.objs.size, [s1.heap.objs.size], _, _, H1, rfl, I1.kept (t' := s1.toks) fun b o z => Heap.get?_push_of_some _ z, turn_range _ lo (hi - lo).toNat, ?_, fun b hb => ?_, q⟩
  · have e1 : lo + ((0 : Nat) : Int) * 1 = lo := by simp
    have e2 : (((hi - lo).toNat : Nat) : Int) - ((0 : Nat) : Int) = Builtin.Range.rangeSize lo hi 1 := by
      rw [rangeSize_one]
      split <;> omega
    rw [e1, e2]
    exact Heap.get?_push_size _ rfl
  · rw [List.mem_singleton] at hb
    subst hb
    exact I1.fpOk (Nat.le_refl _) (I1.hok.fresh (Nat.le_refl _))
end
section
variable {X : Cx} {tg e : Expr} {p pos : Pos} {G : Gd} {ow : List Nat} {f : Env → Rs D} {a b : Expr} {fs : Env → Rs (List D)}
theorem kv_nof {K : PySem.W.Frag} {B : Hp} {kvs : List (Key × V)} {d : D} (h : DnKv K B kvs [(.bool false, d)]) : False := by
  generalize e : [((.bool false : D), d)] = es at h
  cases h with
  | nil => cases e
  | @cons k _ _ _ _ _ _ =>
    injection e with e1 _
    injection e1 with e2 _
    cases k <;> cases e2
theorem i_rngV (he : L2.PE X e (cV G ow 0 f)) : PI X tg e (cI G ow fun γ => (f γ).bind fun d => oR (rngO d)) := (pi_rngV he).impD fun σ H R ⟨B, γ, I, q⟩ => ⟨B, γ, I, q.bind.imp fun d q v B1 H1 x1 hv => by
  obtain ⟨z, ez, q⟩ := q.oR
  unfold rngO at ez
  split at ez
  · rename_i i j
    split at ez
    · rename_i hc
      cases ez
      have hv' : Dn G.K B1 v (rngD i j) := hv
      generalize hd : rngD i j = dd at hv'
      cases hv' with
      | rng h =>
        cases hd
        exact ⟨_, _, _, rfl, x1.s _ _ h, ⟨Int.le_trans (by decide) hc.1.1, Int.lt_of_le_of_lt hc.1.2 (by decide), Int.le_trans (by decide) hc.2.1, Int.lt_of_le_of_lt hc.2.2 (by decide)⟩, q _ B1 H1 x1 jw_rng⟩
      | dic a b =>
        cases hd
        exact (kv_nof b).elim
      | dct a b =>
        cases hd
        cases b
      | _ => cases hd
    · cases ez
  · cases ez⟩
theorem d_rngV (hm : X.mg "range" = none) (ha : PA X [a, b] (cA G ow 1 fs)) (hg : Gl X "range" := by rfl) (he : starEach [a, b] X.env = (false, eval a X.env) :: starEach [b] X.env := by rfl) (hpl : (backTo pos (starEach [b] X.env)).any (·.1) = false := by rfl) :
    L2.PE X (.Call (.Name "range" p) [a, b] [] pos) (cV G ow 0 fun γ => (fs γ).bind fun ds => oR (rgV2 ds)) :=
  (pe_callTy cr_range2 hg hm (by decide +kernel) ha (by decide) (by decide) he hpl).impD fun σ H Q ⟨B, γ, I, q⟩ => ⟨B, γ, I, q.bind.imp fun ds q vs B1 H1 x1 hvs => by
    obtain ⟨z, ez, q9⟩ := q.oR
    unfold rgV2 at ez
    split at ez
    · rename_i i j
      split at ez
      · cases ez
        cases hvs with
        | cons h t =>
          cases t with
          | cons h' t' =>
            cases t'
            exact ⟨i, j, by rw [DnF.int h, DnF.int h'], fun r hr => q9 _ (upd B1 r _) _ (x1.trans (.new x1.s hr)) (Dn.rng upd_same)⟩
      · cases ez
    · cases ez⟩
end
end DL
set_option Elab.async false
set_option linter.all false
set_option maxRecDepth 100000
set_option maxHeartbeats 4000000
/-! The data layer: texts. -/
namespace DL
open PySem PySem.Spec PyProof.Rows L2

section
variable {X : Cx} {a b e : Expr} {es : List Expr} {x : Str} {p pos p1 p2 : Pos} {G : Gd} {ow : List Nat} {f g : Env → Rs D} {fs : Env → Rs (List D)} {k : Nat}
/-! names of texts -/
theorem d_gstr {i : Str} (h : ∃ u, X.mg x = some u ∧ RelV (.str i) u) (hg : Gl X x := by rfl) (hd : (x == ("__debug__" : Str)) = false := by decide) : PE X (.Name x pos) (cV G ow 0 (eC (.str i))) := d_c (C8.pe_gc hg h hd) fun _ => .str _
/-! texts in their order -/
def leSD : D → D → Option D
  | .str i, .str j => some (.bool (!decide (j.cps.toList < i.cps.toList)))
  | _, _ => none
theorem hr_leS {K : PySem.W.Frag} : HR K (fun x y H Q => ∃ i j, x = .str i ∧ y = .str j ∧ Q (.bl (!decide (j.cps.toList < i.cps.toList))) H) leSD := by
  refine ⟨?_⟩; intro B H x y d e z Q s hx hy hz q
  unfold leSD at hz
  split at hz
  · cases hz
    exact ⟨_, _, hx.str, hy.str, q _ B H (.refl s) (.bl _)⟩
  · cases hz
/-! one sign in a text -/
def inSD (neg : Bool) : D → D → Option D
  | .str a, .str z => match a.cps.toList with
    | [c] => some (.bool (neg != decide (c ∈ z.cps.toList)))
    | _ => none
  | _, _ => none
theorem one_sign {a : Str} {c : Nat} (h : a.cps.toList = [c]) : a = ⟨#[c]⟩ := by
  obtain ⟨u⟩ := a
  have : u = #[c] := Array.toList_inj.mp h
  rw [this]
theorem hr_inS {K : PySem.W.Frag} : HR K (fun x y H Q => ∃ (c : Nat) (z : Str), x = .str ⟨#[c]⟩ ∧ y = .str z ∧ Q (.bl (decide (c ∈ z.cps.toList))) H) (inSD false) := by
  refine ⟨?_⟩; intro B H x y d e z Q s hx hy hz q
  unfold inSD at hz
  split at hz
  · rename_i a z
    split at hz
    · rename_i c hc
      cases hz
      have := one_sign hc
      subst this
      exact ⟨c, z, hx.str, hy.str, q _ B H (.refl s) (by rw [Bool.false_bne]; exact .bl _)⟩
    · cases hz
  · cases hz
theorem hr_ninS {K : PySem.W.Frag} : HR K (fun x y H Q => ∃ (c : Nat) (z : Str), x = .str ⟨#[c]⟩ ∧ y = .str z ∧ Q (.bl (!decide (c ∈ z.cps.toList))) H) (inSD true) := by
  refine ⟨?_⟩; intro B H x y d e z Q s hx hy hz q
  unfold inSD at hz
  split at hz
  · rename_i a z
    split at hz
    · rename_i c hc
      cases hz
      have := one_sign hc
      subst this
      exact ⟨c, z, hx.str, hy.str, q _ B H (.refl s) (by rw [Bool.true_bne]; exact .bl _)⟩
    · cases hz
  · cases hz
theorem d_inS (ha : PE X a (cV G ow 1 f)) (hb : PE X b (cV G ow 1 g)) (hm : behindInMarks .In b = false := by rfl) : PE X (.Compare a [.In] [b] pos) (cV G ow 0 (b2 f g (inSD false))) := d_cmp hr_inS op_in_sign hm ha hb
theorem t_inS (ha : PE X a (cV G ow 1 f)) (hb : PE X b (cV G ow 1 g)) (hm : behindInMarks .In b = false := by rfl) : PT X (.Compare a [.In] [b] pos) (cT G ow (b1 (b2 f g (inSD false)) boolO)) := t_cmp hr_inS op_in_sign hm ha hb
theorem t_notinS (ha : PE X a (cV G ow 1 f)) (hb : PE X b (cV G ow 1 g)) (hm : behindInMarks .NotIn b = false := by rfl) : PT X (.Compare a [.NotIn] [b] pos) (cT G ow (b1 (b2 f g (inSD true)) boolO)) := t_cmp hr_ninS op_notIn_sign hm ha hb
theorem d_notinS (ha : PE X a (cV G ow 1 f)) (hb : PE X b (cV G ow 1 g)) (hm : behindInMarks .NotIn b = false := by rfl) : PE X (.Compare a [.NotIn] [b] pos) (cV G ow 0 (b2 f g (inSD true))) := d_cmp hr_ninS op_notIn_sign hm ha hb
def strO : D → Option Str
  | .str x => some x
  | _ => none
theorem strO_eq {d : D} {x : Str} (h : strO d = some x) : d = .str x := by
  unfold strO at h
  split at h
  · cases h; rfl
  · cases h
abbrev eM1 {α : Type} (f g : Env → Rs D) (F : D → D → Option α) : Env → Rs α := fun γ => (f γ).bind fun d => (oR (strO d)).bind fun _ => (g γ).bind fun e => oR (F d e)
/-! sep.join(texts) -/
def strsO : List D → Option (List Str)
  | [] => some []
  | .str x :: r => (strsO r).map (x :: ·)
  | _ => none
theorem strsO_map : ∀ {ds : List D} {ys : List Str}, strsO ds = some ys → ds = ys.map PyData.str
  | [], _, h => by cases h; rfl
  | d :: ds, ys, h => by
    cases d with
    | str x =>
      have h : (strsO ds).map (x :: ·) = some ys := h
      rw [Option.map_eq_some_iff] at h
      obtain ⟨zs, h1, rfl⟩ := h
      rw [strsO_map h1]
      rfl
    | _ => cases h
def joinD : D → D → Option D
  | .str s, .list ds => (strsO ds).bind fun ys => if (ys.map (·.length)).sum + ys.length * s.length ≤ LIM then some (.str (Str.join s ys)) else none
  | .str s, .tuple ds => (strsO ds).bind fun ys => if (ys.map (·.length)).sum + ys.length * s.length ≤ LIM then some (.str (Str.join s ys)) else none
  | _, _ => none
theorem d_join (ha : PE X a (cV G ow 1 f)) (hb : PE X e (cV G ow 1 g)) (hK : X.K = G.K := by rfl) (hs : starEach [e] X.env = [(false, eval e X.env)] := by rfl) (hbase : attributeBase a "join" X.env (eval a X.env) = eval a X.env := by rfl) (hline : (p1.endLine == pos.line) = true := by rfl) :
    PE X (.Call (.Attribute a "join" p1) [e] [] pos) (cV G ow 0 fun γ => (f γ).bind fun d => (oR (strO d)).bind fun _ => (g γ).bind fun e => oR (joinD d e)) :=
  (pe_join ha hb hs hbase hline).impD fun σ H Q ⟨B, γ, I, q⟩ => ⟨B, γ, I, q.bind.imp fun d q v B1 H1 x1 hv => by
    obtain ⟨sep, e1, q⟩ := q.bind.oR
    have e2 := strO_eq e1
    subst e2
    have hvs := hv.str
    refine ⟨⟨sep, hvs⟩, B1, γ, I.mono x1, q.bind.mono x1 fun e q u B2 H2 x2 hu => ?_⟩
    obtain ⟨z, ez, q⟩ := q.oR
    have key : ∀ ds : List D, (strsO ds).bind (fun ys => if (ys.map (·.length)).sum + ys.length * sep.length ≤ LIM then some (PyData.str (Str.join sep ys)) else none) = some z → ∀ us, DnAll G.K H2 us ds → ∃ ys : List Str, us = ys.map V.str ∧ (ys.map (·.length)).sum + ys.length * sep.length ≤ LIM ∧ z = .str (Str.join sep ys) := fun ds ez us hus => by
      rw [Option.bind_eq_some_iff] at ez
      obtain ⟨ys, h1, h2⟩ := ez
      split at h2
      · rename_i hc
        cases h2
        have := strsO_map h1
        subst this
        exact ⟨ys, hus.strs, hc, rfl⟩
      · cases h2
    have hu' := hu.flu x2.s
    cases e with
    | list ds =>
      have ez : (strsO ds).bind _ = some z := ez
      cases hu' with
      | lst r hd =>
        obtain ⟨ys, rfl, hc, rfl⟩ := key ds ez _ hd
        exact ⟨sep, _, ys, hvs, rfl, .inl (by rw [hK]; exact .inl r), Nat.le_trans hc (by decide), by rw [TL.join_eq]; exact q _ B2 H2 (x1.trans x2) (Dn.str _)⟩
    | tuple ds =>
      have ez : (strsO ds).bind _ = some z := ez
      cases hu' with
      | tup r hd =>
        obtain ⟨ys, rfl, hc, rfl⟩ := key ds ez _ hd
        exact ⟨sep, _, ys, hvs, rfl, .inr (by rw [hK]; exact .inl (.inl r)), Nat.le_trans hc (by decide), by rw [TL.join_eq]; exact q _ B2 H2 (x1.trans x2) (Dn.str _)⟩
    | _ => cases ez⟩
/-! x.startswith(y) -/
def stwD : D → D → Option D
  | .str x, .str y => some (.bool (Txt.startswith x y))
  | _, _ => none
theorem d_stw (ha : PE X a (cV G ow 1 f)) (hb : PE X e (cV G ow 1 g)) (hs : starEach [e] X.env = [(false, eval e X.env)] := by rfl) (hbase : attributeBase a "startswith" X.env (eval a X.env) = eval a X.env := by rfl) (hline : (p1.endLine == pos.line) = true := by rfl) :
    PE X (.Call (.Attribute a "startswith" p1) [e] [] pos) (cV G ow 0 fun γ => (f γ).bind fun d => (oR (strO d)).bind fun _ => (g γ).bind fun e => oR (stwD d e)) :=
  (pe_m1 PySem.F.slot_str_startswith PySem.F.type_str_startswith mt_startswith ha hb hs hbase hline).impD fun σ H Q ⟨B, γ, I, q⟩ => ⟨B, γ, I, q.bind.imp fun d q v B1 H1 x1 hv => by
    obtain ⟨sep, e1, q⟩ := q.bind.oR
    have e2 := strO_eq e1
    subst e2
    have hvs := hv.str
    refine ⟨⟨sep, hvs⟩, B1, γ, I.mono x1, q.bind.mono x1 fun e q u B2 H2 x2 hu => ?_⟩
    obtain ⟨z, ez, q⟩ := q.oR
    unfold stwD at ez
    split at ez
    · rename_i x y heq
      cases heq
      cases ez
      exact ⟨_, _, hvs, by rw [hu.str], q _ B2 H2 (x1.trans x2) (.bl _)⟩
    · cases ez⟩
/-! x.split(sep) -/
def splitN : D → D → Option (List D)
  | .str x, .str y => if (y.length == 0) = false ∧ x.length ≤ LIM then some ((Txt.split x y).map PyData.str) else none
  | _, _ => none
theorem dn_strs {K : PySem.W.Frag} {H : Hp} : ∀ ys : List Str, DnAll K H (ys.map V.str) (ys.map PyData.str)
  | [] => .nil
  | y :: ys => .cons (.str y) (dn_strs ys)
theorem n_split (ha : PE X a (cV G ow 1 f)) (hb : PE X e (cV G ow 1 g)) (hs : starEach [e] X.env = [(false, eval e X.env)] := by rfl) (hbase : attributeBase a "split" X.env (eval a X.env) = eval a X.env := by rfl) (hline : (p1.endLine == pos.line) = true := by rfl) :
    PE X (.Call (.Attribute a "split" p1) [e] [] pos) (cN G ow fun γ => (f γ).bind fun d => (oR (strO d)).bind fun _ => (g γ).bind fun e => oR (splitN d e)) :=
  (pe_split ha hb hs hbase hline).impD fun σ H Q ⟨B, γ, I, q⟩ => ⟨B, γ, I, q.bind.imp fun d q v B1 H1 x1 hv => by
    obtain ⟨sep, e1, q⟩ := q.bind.oR
    have e2 := strO_eq e1
    subst e2
    have hvs := hv.str
    refine ⟨⟨sep, hvs⟩, B1, γ, I.mono x1, q.bind.mono x1 fun e q u B2 H2 x2 hu => ?_⟩
    obtain ⟨z, ez, q⟩ := q.oR
    unfold splitN at ez
    split at ez
    · rename_i x y heq
      cases heq
      split at ez
      · rename_i hc
        cases ez
        exact ⟨_, _, hvs, by rw [hu.str], hc.1, Nat.le_trans (Nat.add_le_add_right hc.2 2) (by decide), fun r hr => q r _ B2 _ ((x1.trans x2).trans (.hid x2.s hr)) ((x1.trans x2).h.free hr) (same_none x2.s hr) upd_same (dn_strs _)⟩
      · cases ez
    · cases ez⟩
/-! int(text), str(text) -/
def intT : List D → Option D
  | [.str x] => if x.length ≤ 640 then (intText? x).map PyData.int else none
  | _ => none
theorem d_intT (hm : X.mg "int" = none) (ha : PA X (e :: es) (cA G ow 1 fs)) (hg : Gl X "int" := by rfl) (he : starEach (e :: es) X.env = (false, eval e X.env) :: starEach es X.env := by rfl) (hpl : (backTo pos (starEach es X.env)).any (·.1) = false := by rfl) :
    PE X (.Call (.Name "int" p) (e :: es) [] pos) (cV G ow 0 fun γ => (fs γ).bind fun ds => oR (intT ds)) :=
  d_callT ⟨by
    intro B H vs ds z Q s hx hz q
    unfold intT at hz
    split at hz
    · split at hz
      · rename_i hc
        rw [Option.map_eq_some_iff] at hz
        obtain ⟨n, h1, rfl⟩ := hz
        cases hx with
        | cons h t => cases t; exact ⟨_, n, by rw [DnF.str h], h1, hc, q _ B H (.refl s) (.int _)⟩
      · cases hz
    · cases hz⟩ call_int_str hm (by decide +kernel) ha hg (by decide) (by decide) he hpl
def strA : List D → Option D
  | [.int i] => if i.natAbs.log2 < 1920 then some (.str (toString i)) else none
  | [.str x] => some (.str x)
  | _ => none
theorem d_strA (hm : X.mg "str" = none) (ha : PA X (e :: es) (cA G ow 1 fs)) (hg : Gl X "str" := by rfl) (he : starEach (e :: es) X.env = (false, eval e X.env) :: starEach es X.env := by rfl) (hpl : (backTo pos (starEach es X.env)).any (·.1) = false := by rfl) :
    PE X (.Call (.Name "str" p) (e :: es) [] pos) (cV G ow 0 fun γ => (fs γ).bind fun ds => oR (strA ds)) :=
  d_callT (r := fun xs H Q => (∃ i, xs = [.int i] ∧ i.natAbs.log2 < 1920 ∧ Q (.str (toString i)) H) ∨ ∃ a, xs = [.str a] ∧ Q (.str a) H) ⟨by
    intro B H vs ds z Q s hx hz q
    unfold strA at hz
    split at hz
    · split at hz
      · rename_i hc
        cases hz
        cases hx with
        | cons h t => cases t; exact .inl ⟨_, by rw [DnF.int h], hc, q _ B H (.refl s) (.str _)⟩
      · cases hz
    · cases hz
      cases hx with
      | cons h t => cases t; exact .inr ⟨_, by rw [DnF.str h], q _ B H (.refl s) (.str _)⟩
    · cases hz⟩ (CallR.or call_str_int SkE.call_str_str) hm (by decide +kernel) ha hg (by decide) (by decide) he hpl
end
end DL
set_option Elab.async false
set_option linter.all false
set_option maxRecDepth 100000
set_option maxHeartbeats 4000000
/-! The data layer: an own list that is lent to a call. -/
namespace DL
open PySem PySem.Spec PyProof.Rows L2

/-! ### what does not hang on the place -/
open Classical in
/-- the answer that is the same at all places -/
noncomputable def lendR {α : Type} (F : Addr → Rs α) : Rs α := if h : ∃ r, ∀ p, F p = r then Classical.choose h else .no
theorem lendR_eq {α : Type} {F : Addr → Rs α} {r : Rs α} (h : ∀ p, F p = r) : lendR F = r := by
  have hh : ∃ r, ∀ p, F p = r := ⟨r, h⟩
  have e : lendR F = Classical.choose hh := dif_pos hh
  rw [e, ← Classical.choose_spec hh 0, h 0]
theorem lendR_at {α : Type} {F : Addr → Rs α} (p : Addr) (h : lendR F ≠ .no) : lendR F = F p := by
  by_cases hh : ∃ r, ∀ p, F p = r
  · have e : lendR F = Classical.choose hh := dif_pos hh
    rw [e, Classical.choose_spec hh p]
  · exact absurd (dif_neg hh) h
abbrev adr (p : Addr) : D := .dict [(.bool false, .int (p : Nat))]
def isAdr (q : Addr) : D → Bool
  | .dict [(.bool false, .int i)] => i == (q : Nat)
  | _ => false
theorem isAdr_eq {q : Addr} {d : D} (h : isAdr q d = true) : d = adr q := by
  unfold isAdr at h
  split at h
  · rw [eq_of_beq h]
  · cases h
@[simp] theorem isAdr_adr (q : Addr) : isAdr q (adr q) = true := by
  show (((q : Nat) : Int) == ((q : Nat) : Int)) = true
  exact beq_self_eq_true _
theorem dn_adr {K : PySem.W.Frag} {H : Hp} {v : V} {p : Addr} (h : Dn K H v (adr p)) : v = .ref p := by
  generalize hd : adr p = d at h
  cases h with
  | adr =>
    injection hd with h1
    injection h1 with h2 h3
    injection h2 with h4 h5
    injection h5 with h6
    rw [Int.ofNat_inj.mp h6]
  | dic h1 h2 =>
    injection hd with h3
    cases h2 with
    | nil => cases h3
    | cons h4 h5 =>
      rename_i k v kvs d es
      injection h3 with h6 h7
      injection h6 with h8 h9
      cases k <;> cases h8
  | dct h1 h2 =>
    injection hd with h3
    cases h2 with
    | nil => cases h3
    | cons h4 h5 =>
      injection h3 with h6 h7
      injection h6 with h8 h9
      cases h8
  | lkk h1 h2 => injection hd with h3; injection h3 with h4 h5; injection h4 with h6 h7; cases h6
  | lkt h1 h2 => injection hd with h3; injection h3 with h4 h5; injection h4 with h6 h7; cases h6
  | rng h1 => injection hd with h3; injection h3 with h4 h5; injection h4 with h6 h7; cases h7
  | rol h1 h2 => injection hd with h3; injection h3 with h4 h5; injection h4 with h6 h7; cases h6
  | _ => cases hd
def era (p : Addr) (H : Hp) : Hp := fun a => if a = p then none else H a
theorem era_ne {p a : Addr} {H : Hp} (h : a ≠ p) : era p H a = H a := if_neg h
theorem era_none {p a : Addr} {H : Hp} {o : HO} (h : era p H a = some o) : a ≠ p ∧ H a = some o := by
  unfold era at h
  split at h
  · cases h
  · rename_i e; exact ⟨e, h⟩
/-! ### lent for reading: x = list(the lent one) -/
section
variable {X : Cx} {x : Str} {pos p1 p2 : Pos} {G : Gd} {ow : List Nat}
abbrev rdL (q : Addr) (ls : List D) (i : Nat) : Env → Rs (List D) := fun γ => (gE γ i).bind fun d => if isAdr q d = true then .ok ls else .no
/-- list(x) of the lent list in slot i -/
theorem n_listL {q : Addr} {xs : List V} {ls : List D} (hG : G.H q = some (.lst xs) ∧ DnAll G.K G.B xs ls) (i : Nat) (hm : X.mg "list" = none) (h0 : ow.getD i 0 = 0 := by rfl) (hN : X.N[i]? = some x := by rfl) (hv : Vis X.env.scope x := by first | exact Or.inl rfl | exact Or.inr (Or.inl rfl) | exact Or.inr (Or.inr rfl)) (hd : (x == ("__debug__" : Str)) = false := by decide) (hcd : (x == ("__classdict__" : Str)) = false := by decide)
    (hg : Gl X "list" := by rfl) (he : starEach [.Name x p1] X.env = (false, eval (.Name x p1) X.env) :: starEach [] X.env := by rfl) (hpl : (backTo pos (starEach [] X.env)).any (·.1) = false := by rfl) (hK : X.K = G.K := by rfl) :
    PE X (.Call (.Name "list" p2) [.Name x p1] [] pos) (cN G ow (rdL q ls i)) :=
  (pe_callTy (hK ▸ call_list_of) hg hm (by decide +kernel) (pa_cons (pe_var hN hv hd hcd) pa_nil he) (by decide) (by decide) he hpl).impD fun σ H Q ⟨B, γ, I, q'⟩ => by
    obtain ⟨d, e, q'⟩ := q'.bind.gE
    obtain ⟨own, h1, h2, h3⟩ := I.v
    obtain ⟨v, e1, r1⟩ := h3 i d e
    rw [h0] at r1
    split at q'
    · rename_i hq
      have hq := isAdr_eq hq
      subst hq
      have := dn_adr r1
      subst this
      have hH := I.e.h _ _ hG.1
      exact ⟨_, e1, q, xs, rfl, .inl (.inl (.inl hH)), fun r hr => q' r _ B _ (.hid I.s hr) hr (same_none I.s hr) upd_same (hG.2.mono I.e.b)⟩
    · exact q'.elim
end
/-- the promise of a def whose first argument is lent for reading -/
def spR (K : PySem.W.Frag) (mg : Str → Option Value) (n : Nat) (F : Addr → List D → List D → Rs D) : Sp := fun vs H Q E => vs.length = n ∧ ∃ B q vs' xs ls ds, vs = .ref q :: vs' ∧ Same B H ∧ B q = none ∧ H q = some (.lst xs) ∧ DnAll K B xs ls ∧ Paired (Dn K B) vs' ds ∧ match F q ls ds with
  | .ok d => ∀ v B' H', Ext B H B' H' → Dn K B' v d → Q v H'
  | _ => False
def callR (m : Nat) (g : Addr → List D → Env → Out) (q : Addr) (ls ds : List D) : Rs D := match g q ls (some (adr q) :: (ds.map some ++ List.replicate (m - (ds.length + 1)) none)) with
  | .rt d => .ok d
  | .nx _ => .ok .none
  | _ => .no
section
variable {P : Program} {w : World} {K : PySem.W.Frag} {mg : Str → Option Value} {base : Heap}
theorem ok_ofR {x qual : Str} {st : Stmt} {f : Addr} {fd : FuncData} {N ps : List Str} {k : Nat} {g : Addr → List D → Env → Out} {owN : List Nat} (F : Fun K x qual st f fd) (S : FnScope N ps (defScope st))
    (hbody : ∀ (cdv : Value) (A : Around) (outer : List PySem.Env) (s : Shared) (H B : Hp) (E : XK) (q : Addr) (xs : List V) (ls : List D), (H q = some (.lst xs) ∧ DnAll K B xs ls) → Room k (A.deeper (envOfC qual (defScope st) s.heap.objs.size f cdv)) →
      PSs (cxOf (L2.CX P w) P w K mg base N qual (defScope st) f cdv A outer s H E) (defBody st) (cS ⟨K, mg, fun cls d _ H' => E cls d H', B, H, none⟩ (List.replicate N.length 0) owN [] (g q ls))) :
    FnOk P w K mg base (L2.CX P w) (k + 1) f fd ps (spR K mg ps.length (callR N.length g)) := by
  refine F.okX S (fun vs H Q E h => h.1) fun cdv A outer s H vs Q E hr h => ?_
  obtain ⟨hl, B, q, vs', xs, ls, ds, rfl, sB, hBq, hHq, hxs, hds, h⟩ := h
  refine ⟨_, hbody cdv A outer s H B E q xs ls ⟨hHq, hxs⟩ hr, ?_⟩
  have hds' : DnAll K B (.ref q :: vs') (adr q :: ds) := .cons .adr (.of_paired hds)
  refine ⟨B, some (adr q) :: (ds.map some ++ List.replicate (N.length - (ds.length + 1)) none), ⟨sB, .refl sB, ?_, (fun t z => nomatch z), fun _ _ => False, fun _ _ z => False.elim z, fun _ _ _ z => False.elim z, fun i d e => ?_⟩, ?_⟩
  · unfold L2.start
    rw [List.length_cons, List.length_append, List.length_append, List.length_map, List.length_map, List.length_replicate, List.length_replicate, List.length_cons, paired_len hds]
    omega
  · have e' : ((adr q :: ds).map some ++ List.replicate (N.length - (ds.length + 1)) none)[i]? = some (some d) := e
    have hi : i < (adr q :: ds).length := by
      by_cases hi : i < (adr q :: ds).length
      · exact hi
      · rw [List.getElem?_append_right (by rw [List.length_map]; omega), List.getElem?_replicate] at e'
        split at e' <;> cases e'
    rw [List.getElem?_append_left (by rw [List.length_map]; exact hi), List.getElem?_map, Option.map_eq_some_iff] at e'
    obtain ⟨z, e1, e2⟩ := e'
    cases e2
    obtain ⟨v, e3, e4⟩ := hds'.get e1
    refine ⟨v, ?_, ?_⟩
    · unfold L2.start
      rw [List.getElem?_append_left (by rw [List.length_map, hds'.length]; exact hi), List.getElem?_map, e3]
      rfl
    · have : (List.replicate N.length 0).getD i 0 = 0 := by
        rw [List.getD_eq_getElem?_getD, List.getElem?_replicate]
        split <;> rfl
      rw [this]
      exact e4
  · unfold callR at h
    cases hf : g q ls (some (adr q) :: (ds.map some ++ List.replicate (N.length - (ds.length + 1)) none)) with
    | rt d =>
      rw [hf] at h
      exact fun v B' H' s' x hv => h v B' H' x hv
    | nx γ =>
      rw [hf] at h
      exact fun B' σ' H' s' I => h .non B' H' I.e .non
    | er c fs γ => rw [hf] at h; exact False.elim h
    | bk γ => rw [hf] at h; exact False.elim h
    | ct γ => rw [hf] at h; exact False.elim h
    | no => rw [hf] at h; exact False.elim h
end
section
variable {X : Cx} {x y : Str} {p p1 pos : Pos} {e : Expr} {es : List Expr} {G : Gd} {ow : List Nat} {fs : Env → Rs (List D)} {k n : Nat} {f : Addr} {fd : FuncData} {ps : List Str} {F : Addr → List D → List D → Rs D}
/-- what such a call answers -/
noncomputable abbrev cFR (j n : Nat) (fs : Env → Rs (List D)) (F : Addr → List D → List D → Rs D) : Env → Rs D := fun γ => (lsE γ j).bind fun ls => (fs γ).bind fun ds => if ds.length + 1 = n then lendR fun q => noEr (F q ls ds) else .no
/-- f(y, ..): y an own list that is lent for reading -/
theorem d_callR (j : Nat) (Fn : FnOk X.prog X.w X.K X.mg X.base (L2.CX X.prog X.w) k f fd ps (spR X.K X.mg n F)) (hr : Room k X.A) (hm : X.mg x = some (.ref f)) (hk : PySem.W.keepIn X.K (.ref f) = true) (hb : Binds X.K fd ps []) (tk : Takes X G.W) (ha : PA X es (cA G ow 0 fs))
    (hj : ow.getD j 0 = 1 := by rfl) (hx : G.x = none := by rfl) (hN : X.N[j]? = some y := by rfl) (hv : Vis X.env.scope y := by first | exact Or.inl rfl | exact Or.inr (Or.inl rfl) | exact Or.inr (Or.inr rfl)) (hd : (y == ("__debug__" : Str)) = false := by decide) (hcd : (y == ("__classdict__" : Str)) = false := by decide)
    (hst : starEach (.Name y p1 :: es) X.env = (false, eval (.Name y p1) X.env) :: starEach es X.env := by rfl)
    (hg : Gl X x := by rfl) (hK : X.K = G.K := by rfl) (hdb : (x == ("__debug__" : Str)) = false := by decide) (hpl : (backTo pos (starEach es X.env)).any (·.1) = false := by rfl) :
    PE X (.Call (.Name x p) (.Name y p1 :: es) [] pos) (cV G ow 0 (cFR j n fs F)) :=
  (pe_callS Fn hr hg hm hk hb (fun σ => passAt tk σ) (pa_cons (pe_var hN hv hd hcd) ha hst) hdb hst hpl).impD fun σ H Q ⟨B, γ, I, q⟩ => by
    obtain ⟨ls, hgi, q⟩ := q.bind.lsE
    obtain ⟨a, xs, e1, e2, e3, _⟩ := I.wr hx hj hgi
    refine ⟨.ref a, e1, B, γ, I, q.bind.imp fun ds q vs B1 H1 x1 hvs => ?_⟩
    split at q
    · rename_i hn
      obtain ⟨a', xs', e1', e2', e3', _⟩ := (I.mono x1).wr hx hj hgi
      rw [e1] at e1'
      cases e1'
      have hne : lendR (fun q => noEr (F q ls ds)) ≠ .no := fun z => by rw [z] at q; exact q
      rw [lendR_at a hne] at q
      obtain ⟨own, o1, o2, o3⟩ := (I.mono x1).v
      obtain ⟨v, e4, r⟩ := o3 j _ hgi
      rw [hj] at r
      obtain ⟨a2, xs2, ds2, rfl, r2, r3, r4, r5⟩ := r
      rw [e1] at e4
      cases e4
      have hBa := (o1 j a r3).1
      refine ⟨by rw [List.length_cons, paired_len hvs]; exact hn, B1, a, vs, xs', ls, ds, rfl, x1.s, hBa, e2', by rw [hK]; exact e3', by rw [hK]; exact hvs, ?_⟩
      cases hF : F a ls ds with
      | ok d =>
        rw [hF] at q
        exact fun v B' H' x2 hv => q v B' H' (x1.trans x2) (by rw [← hK]; exact hv)
      | er c fs => rw [hF] at q; exact False.elim q
      | no => rw [hF] at q; exact False.elim q
    · exact False.elim q
end
end DL
set_option Elab.async false
set_option linter.all false
set_option maxRecDepth 100000
set_option maxHeartbeats 4000000
/-! The data layer: an own list that is lent to a call and written there. -/
namespace DL
open PySem PySem.Spec PyProof.Rows L2

inductive OutL where
  | nx (γ : Env) (ls : List D)
  | rt (d : D) (ls : List D)
  | bk (γ : Env) (ls : List D)
  | ct (γ : Env) (ls : List D)
  | no
/-- where a lent list stands: the slot, the place, what stood there at first -/
structure Ln where
  K : PySem.W.Frag
  mg : Str → Option Value
  W : WX
  i : Nat
  p : Addr
  B0 : Hp
  H0 : Hp
abbrev GG (L : Ln) (B H : Hp) : Gd := ⟨L.K, L.mg, L.W, B, H, none⟩
structure LR (L : Ln) (B H : Hp) (σ : L2.St) (γ : Env) (ls : List D) : Prop where
  E : EnvR (GG L B H) [] B H σ γ
  a : γ[L.i]? = some (some (adr L.p))
  h : ∃ xs, H L.p = some (.lst xs) ∧ DnAll L.K B xs ls
  b : B L.p = none
  e : Ext L.B0 (era L.p L.H0) B H
def OutLP (L : Ln) (J : Ends) : OutL → Prop
  | .nx γ ls => ∀ B' σ' H', LR L B' H' σ' γ ls → J.nx σ' H'
  | .rt d ls => ∀ v B' H', Ext L.B0 (era L.p L.H0) B' H' → B' L.p = none → (∃ xs, H' L.p = some (.lst xs) ∧ DnAll L.K B' xs ls) → Dn L.K B' v d → J.rt v H'
  | .bk γ ls => ∀ B' σ' H', LR L B' H' σ' γ ls → J.bk σ' H'
  | .ct γ ls => ∀ B' σ' H', LR L B' H' σ' γ ls → J.ct σ' H'
  | .no => False
def cL (L : Ln) (f : Env → List D → OutL) : TS := fun J σ H => ∃ B γ ls, LR L B H σ γ ls ∧ OutLP L J (f γ ls)
section
variable {L : Ln} {B H B' H' : Hp} {σ σ' : L2.St} {γ γ' : Env} {ls : List D}
theorem EnvR.regr {ow : List Nat} (h0 : ∀ j, ow.getD j 0 = 0) (I : EnvR (GG L B H) ow B' H' σ γ) : EnvR (GG L B' H') [] B' H' σ γ := by
  obtain ⟨own, h1, h2, h3⟩ := I.v
  refine ⟨I.s, .refl I.s, I.len, (fun t z => nomatch z), fun _ _ => False, fun _ _ z => False.elim z, fun _ _ _ z => False.elim z, fun i d e => ?_⟩
  obtain ⟨v, e1, r⟩ := h3 i d e
  rw [h0] at r
  exact ⟨v, e1, r⟩
theorem LR.next {ow : List Nat} (R : LR L B H σ γ ls) (h0 : ∀ j, ow.getD j 0 = 0) (I : EnvR (GG L B H) ow B' H' σ' γ') (ha : γ'[L.i]? = some (some (adr L.p))) : LR L B' H' σ' γ' ls := by
  obtain ⟨xs, h1, h2⟩ := R.h
  exact ⟨I.regr h0, ha, ⟨xs, I.e.h _ _ h1, h2.mono I.e.b⟩, I.e.n _ R.b (nt_lst h1), R.e.trans I.e⟩
theorem LR.ext (R : LR L B H σ γ ls) (x : Ext B H B' H') : LR L B' H' σ γ ls := R.next (ow := []) (fun j => rfl) (R.E.mono x) R.a
end
/-- the slot still tells the same place -/
def adrN : Option (Option D) → Option Int
  | some (some (.dict [(.bool false, .int i)])) => some i
  | _ => none
def sameA (i : Nat) (γ γ' : Env) : Bool := decide (adrN γ'[i]? = adrN γ[i]?)
theorem sameA_ok {i : Nat} {γ γ' : Env} {p : Addr} (h : sameA i γ γ' = true) (ha : γ[i]? = some (some (adr p))) : γ'[i]? = some (some (adr p)) := by
  have h := of_decide_eq_true h
  rw [ha] at h
  have h : adrN γ'[i]? = some (p : Nat) := h
  unfold adrN at h
  split at h
  · rename_i j e
    cases h
    exact e
  · cases h
def liftO (i : Nat) (γ : Env) (o : Out) (ls : List D) : OutL := match o with
  | .nx γ' => if sameA i γ γ' = true then .nx γ' ls else .no
  | .rt d => .rt d ls
  | .bk γ' => if sameA i γ γ' = true then .bk γ' ls else .no
  | .ct γ' => if sameA i γ γ' = true then .ct γ' ls else .no
  | _ => .no
section
variable {X : Cx} {st : Stmt} {rest body els : List Stmt} {e c : Expr} {pos : Pos} {L : Ln} {owN owL : List Nat} {f g : Env → List D → OutL} {fo : Env → Out} {t : Env → Rs Bool} {fe : Env → Rs D}
/-- any statement that does not write the lent list -/
theorem l_of (h : ∀ B H, PS X st (cS (GG L B H) [] owN owL fo)) (hN : ∀ j, owN.getD j 0 = 0) (hL : ∀ j, owL.getD j 0 = 0) : PS X st (cL L fun γ ls => liftO L.i γ (fo γ) ls) := ⟨fun pins s σ H J I ⟨B, γ, ls, R, q⟩ => by
  refine (h B H).run pins s σ H J I ⟨B, γ, R.E, ?_⟩
  have q : OutLP L J (liftO L.i γ (fo γ) ls) := q
  unfold liftO at q
  cases hf : fo γ with
  | nx γ' =>
    rw [hf] at q
    dsimp only at q
    split at q
    · rename_i hc
      exact fun B' σ' H' s' I' => q B' σ' H' (R.next hN I' (sameA_ok hc R.a))
    · exact q.elim
  | rt d =>
    rw [hf] at q
    intro v B' H' s' x hv
    obtain ⟨xs, h1, h2⟩ := R.h
    exact q v B' H' (R.e.trans x) (x.n _ R.b (nt_lst h1)) ⟨xs, x.h _ _ h1, h2.mono x.b⟩ hv
  | bk γ' =>
    rw [hf] at q
    dsimp only at q
    split at q
    · rename_i hc
      exact fun B' σ' H' s' I' => q B' σ' H' (R.next hL I' (sameA_ok hc R.a))
    · exact q.elim
  | ct γ' =>
    rw [hf] at q
    dsimp only at q
    split at q
    · rename_i hc
      exact fun B' σ' H' s' I' => q B' σ' H' (R.next hL I' (sameA_ok hc R.a))
    · exact q.elim
  | er c fs γ' => rw [hf] at q; exact q.elim
  | no => rw [hf] at q; exact q.elim⟩
def seqL (f g : Env → List D → OutL) : Env → List D → OutL := fun γ ls => match f γ ls with
  | .nx γ' ls' => g γ' ls'
  | o => o
theorem l_nil : PSs X [] (cL L .nx) := pss_nil.impD fun J σ H ⟨B, γ, ls, R, q⟩ => q B σ H R
theorem l_one (h : PS X st (cL L f)) : PSs X [st] (cL L f) := pss_one h
theorem l_cons (h : PS X st (cL L f)) (hr : PSs X rest (cL L g)) : PSs X (st :: rest) (cL L (seqL f g)) := (pss_cons h hr).impD fun J σ H ⟨B, γ, ls, R, q⟩ => by
  refine ⟨B, γ, ls, R, ?_⟩
  unfold seqL at q
  cases hf : f γ ls with
  | nx γ1 ls1 =>
    rw [hf] at q
    exact fun B' σ' H' R' => ⟨B', γ1, ls1, R', q⟩
  | rt d ls => rw [hf] at q; exact q
  | bk γ ls => rw [hf] at q; exact q
  | ct γ ls => rw [hf] at q; exact q
  | no => rw [hf] at q; exact q
/-- tests -/
def cLT (L : Ln) (t : Env → Rs Bool) : TT := fun σ H Q => ∃ B γ ls, LR L B H σ γ ls ∧ match t γ with
  | .ok b => ∀ B' H', LR L B' H' σ γ ls → Q b H'
  | _ => False
theorem lt_of (h : ∀ B H, PT X e (cT (GG L B H) [] t)) : PT X e (cLT L t) := ⟨fun pins s σ H Q I ⟨B, γ, ls, R, q⟩ => by
  refine (h B H).run pins s σ H Q I ⟨B, γ, R.E, ?_⟩
  cases ht : t γ with
  | ok b => rw [ht] at q; exact fun B' H' x => q B' H' (R.ext x)
  | er c fs => rw [ht] at q; exact q.elim
  | no => rw [ht] at q; exact q.elim⟩
def ifL (t : Env → Rs Bool) (f g : Env → List D → OutL) : Env → List D → OutL := fun γ ls => match t γ with
  | .ok b => if b = true then f γ ls else g γ ls
  | _ => .no
theorem l_if (h : ∀ B H, PT X e (cT (GG L B H) [] t)) (ha : PSs X body (cL L f)) (hb : PSs X els (cL L g)) : PS X (.If e body els pos) (cL L (ifL t f g)) :=
  (ps_if (lt_of h) ha hb).impD fun J σ H ⟨B, γ, ls, R, q⟩ => by
    refine ⟨B, γ, ls, R, ?_⟩
    unfold ifL at q
    cases ht : t γ with
    | ok b =>
      rw [ht] at q
      intro B' H' R'
      cases b with
      | true => exact ⟨B', γ, ls, R', q⟩
      | false => exact ⟨B', γ, ls, R', q⟩
    | er c fs => rw [ht] at q; exact q
    | no => rw [ht] at q; exact q
def whileL (t : Env → Rs Bool) (b : Env → List D → OutL) : Nat → Env → List D → OutL
  | 0, _, _ => .no
  | n + 1, γ, ls => match t γ with
    | .ok c => if c = true then
        match b γ ls with
        | .nx γ2 ls2 => whileL t b n γ2 ls2
        | .ct γ2 ls2 => whileL t b n γ2 ls2
        | .bk γ2 ls2 => .nx γ2 ls2
        | o => o
      else .nx γ ls
    | _ => .no
theorem l_while (hp : PassesOwn (model X.prog X.w) X.A X.env X.xe) (h : ∀ B H, PT X c (cT (GG L B H) [] t)) (hb : PSs X body (cL L f)) : PS X (.While c body [] pos) (cL L fun γ ls => whileL t f FUEL γ ls) :=
  (ps_while hp (lt_of h) hb).impD fun J σ H ⟨B, γ, ls, R, q⟩ => by
    refine ⟨fun m σ' H' => ∃ B' γ' ls', LR L B' H' σ' γ' ls' ∧ OutLP L J (whileL t f m γ' ls'), ⟨FUEL, B, γ, ls, R, q⟩, fun m σ' H' hW => ?_⟩
    obtain ⟨B', γ', ls', R', q'⟩ := hW
    cases m with
    | zero => exact q'.elim
    | succ m =>
      unfold whileL at q'
      refine ⟨B', γ', ls', R', ?_⟩
      cases ht : t γ' with
      | er c fs => rw [ht] at q'; exact q'
      | no => rw [ht] at q'; exact q'
      | ok c =>
        rw [ht] at q'
        intro B1 H1 R1
        cases c with
        | false => exact q' B1 σ' H1 R1
        | true =>
          dsimp only at q'
          rw [if_pos rfl] at q' ⊢
          refine ⟨fun σ2 H2 => ∃ B2 γ2 ls2, LR L B2 H2 σ2 γ2 ls2 ∧ OutLP L J (whileL t f m γ2 ls2), fun σ2 H2 hN => ⟨m, by omega, hN⟩, B1, γ', ls', R1, ?_⟩
          cases hbo : f γ' ls' with
          | nx γ2 ls2 => rw [hbo] at q'; exact fun B4 σ4 H4 R4 => ⟨B4, γ2, ls2, R4, q'⟩
          | ct γ2 ls2 => rw [hbo] at q'; exact fun B4 σ4 H4 R4 => ⟨B4, γ2, ls2, R4, q'⟩
          | bk γ2 ls2 => rw [hbo] at q'; exact fun B4 σ4 H4 R4 => q' B4 σ4 H4 R4
          | rt d ls2 => rw [hbo] at q'; exact q'
          | no => rw [hbo] at q'; exact q'
/-- values -/
def cLV (L : Ln) (fe : Env → Rs D) (γ : Env) (ls : List D) : TE := fun σ H Q => ∃ B, LR L B H σ γ ls ∧ match fe γ with
  | .ok d => ∀ v B' H', LR L B' H' σ γ ls → Dn L.K B' v d → Q v H'
  | _ => False
def cLE (L : Ln) (fe : Env → Rs D) : TE := fun σ H Q => ∃ B γ ls, LR L B H σ γ ls ∧ match fe γ with
  | .ok d => ∀ v B' H', LR L B' H' σ γ ls → Dn L.K B' v d → Q v H'
  | _ => False
theorem le_of (h : ∀ B H, PE X e (cV (GG L B H) [] 0 fe)) : PE X e (cLE L fe) := ⟨fun pins s σ H Q I ⟨B, γ, ls, R, q⟩ => by
  refine (h B H).run pins s σ H Q I ⟨B, γ, R.E, ?_⟩
  cases hf : fe γ with
  | ok d => rw [hf] at q; exact fun v B' H' x hv => q v B' H' (R.ext x) hv
  | er c fs => rw [hf] at q; exact q.elim
  | no => rw [hf] at q; exact q.elim⟩
/-- x.append(e), x the lent list -/
def appL (i : Nat) (fe : Env → Rs D) : Env → List D → OutL := fun γ ls => match fe γ with
  | .ok d => if ls.length < LIM then .nx γ (ls ++ [d]) else .no
  | _ => .no
theorem l_append {x : Str} {p1 p2 p3 : Pos} (h : ∀ B H, PE X e (cV (GG L B H) [] 0 fe)) (hi : X.N[L.i]? = some x := by rfl) (hv : Vis X.env.scope x := by first | exact Or.inl rfl | exact Or.inr (Or.inl rfl) | exact Or.inr (Or.inr rfl))
    (hd : (x == ("__debug__" : Str)) = false := by decide) (hcd : (x == ("__classdict__" : Str)) = false := by decide)
    (hbase : attributeBase (.Name x p1) "append" X.env (eval (.Name x p1) X.env) = eval (.Name x p1) X.env := by rfl) (hst : starEach [e] X.env = (false, eval e X.env) :: starEach [] X.env := by rfl)
    (h1 : PE X (.Name x p1) (tVar L.i) → PA X [e] (tCons (cLE L fe) tNil) → PE X (.Call (.Attribute (.Name x p1) "append" p2) [e] [] p3) (tBM X.K "list" rAppend (tVar L.i) (tCons (cLE L fe) tNil)) := by
      exact fun h1 h2 => pe_bm PySem.F.plainAttrs_list PySem.F.slot_list_append PySem.F.type_list_append mt_append h1 h2)
    (hs : swapsWith (.Call (.Attribute (.Name x p1) "append" p2) [e] [] p3) none pos.line X.env = pure false := by rfl) :
    PS X (.Expr (.Call (.Attribute (.Name x p1) "append" p2) [e] [] p3) pos) (cL L (appL L.i fe)) :=
  (ps_expr (h1 (pe_var hi hv hd hcd) (pa_cons (le_of h) pa_nil hst)) hs).impD fun J σ H ⟨B, γ, ls, R, q⟩ => by
    obtain ⟨own, o1, o2, o3⟩ := R.E.v
    obtain ⟨v0, e1, r1⟩ := o3 L.i _ R.a
    have := dn_adr r1
    subst this
    obtain ⟨xs, hx1, hx2⟩ := R.h
    refine ⟨.ref L.p, e1, .inl ⟨rfl, xs, .inl (.inl hx1)⟩, B, γ, ls, R, ?_⟩
    unfold appL at q
    cases hf : fe γ with
    | er c fs => rw [hf] at q; exact q
    | no => rw [hf] at q; exact q
    | ok d =>
      rw [hf] at q
      dsimp only at q
      split at q
      · rename_i hlt
        intro v B1 H1 R1 hv
        obtain ⟨xs1, hy1, hy2⟩ := R1.h
        refine ⟨L.p, xs1, v, rfl, rfl, hy1, by rw [hy2.length]; exact lim_lt hlt, q B1 σ _ ?_⟩
        have sB : Same B1 (upd H1 L.p (.lst (xs1 ++ [v]))) := fun a u z => by
          have : a ≠ L.p := fun y => by subst y; rw [R1.b] at z; cases z
          rw [upd_ne this]; exact R1.E.s a u z
        refine ⟨⟨sB, .refl sB, R1.E.len, (fun t z => nomatch z), R1.E.v.elim fun own ⟨z1, z2, z3⟩ => ⟨fun _ _ => False, fun _ _ z => False.elim z, fun _ _ _ z => False.elim z, fun i d e => z3 i d e⟩⟩, R1.a, ⟨_, upd_same, hy2.append (.cons hv .nil)⟩, R1.b, ⟨R1.e.b, fun a u z => ?_, sB, R1.e.n⟩⟩
        obtain ⟨z1, z2⟩ := era_none z
        rw [upd_ne z1]
        exact R1.e.h a u z
      · exact q.elim
end
/-! ### the promise of such a def: its last argument is lent -/
def spW (K : PySem.W.Frag) (mg : Str → Option Value) (n : Nat) (F : Addr → List D → List D → Rs (D × List D)) : Sp := fun vs H Q E => vs.length = n ∧ ∃ B q vs' xs ls ds, vs = vs' ++ [.ref q] ∧ Same B H ∧ B q = none ∧ H q = some (.lst xs) ∧ DnAll K B xs ls ∧ Paired (Dn K B) vs' ds ∧ match F q ls ds with
  | .ok r => ∀ v B' H', Ext B (era q H) B' H' → B' q = none → (∃ xs', H' q = some (.lst xs') ∧ DnAll K B' xs' r.2) → Dn K B' v r.1 → Q v H'
  | _ => False
def callW (m : Nat) (g : Env → List D → OutL) (q : Addr) (ls ds : List D) : Rs (D × List D) := match g (ds.map some ++ some (adr q) :: List.replicate (m - (ds.length + 1)) none) ls with
  | .rt d ls' => .ok (d, ls')
  | .nx _ ls' => .ok (.none, ls')
  | _ => .no
section
variable {P : Program} {w : World} {K : PySem.W.Frag} {mg : Str → Option Value} {base : Heap}
theorem ok_ofW {x qual : Str} {st : Stmt} {f : Addr} {fd : FuncData} {N ps : List Str} {k n : Nat} {g : Env → List D → OutL} (F : Fun K x qual st f fd) (S : FnScope N ps (defScope st)) (hn : ps.length = n + 1)
    (hbody : ∀ (cdv : Value) (A : Around) (outer : List PySem.Env) (s : Shared) (H B : Hp) (E : XK) (q : Addr), Room k (A.deeper (envOfC qual (defScope st) s.heap.objs.size f cdv)) →
      PSs (cxOf (L2.CX P w) P w K mg base N qual (defScope st) f cdv A outer s H E) (defBody st) (cL ⟨K, mg, fun cls d _ H' => E cls d H', n, q, B, H⟩ g)) :
    FnOk P w K mg base (L2.CX P w) (k + 1) f fd ps (spW K mg ps.length (callW N.length g)) := by
  refine F.okX S (fun vs H Q E h => h.1) fun cdv A outer s H vs Q E hr h => ?_
  obtain ⟨hl, B, q, vs', xs, ls, ds, rfl, sB, hBq, hHq, hxs, hds, h⟩ := h
  refine ⟨_, hbody cdv A outer s H B E q hr, ?_⟩
  have hds' : DnAll K B (vs' ++ [.ref q]) (ds ++ [adr q]) := (DnAll.of_paired hds).append (.cons .adr .nil)
  have hlen : ds.length = n := by
    have := paired_len hds
    rw [List.length_append, List.length_cons, List.length_nil] at hl
    omega
  have hγ : ds.map some ++ some (adr q) :: List.replicate (N.length - (ds.length + 1)) none = (ds ++ [adr q]).map some ++ List.replicate (N.length - (ds.length + 1)) none := by
    rw [List.map_append, List.append_assoc]; rfl
  refine ⟨B, ds.map some ++ some (adr q) :: List.replicate (N.length - (ds.length + 1)) none, ls, ⟨⟨sB, .refl sB, ?_, (fun t z => nomatch z), fun _ _ => False, fun _ _ z => False.elim z, fun _ _ _ z => False.elim z, fun i d e => ?_⟩, ?_, ⟨xs, hHq, hxs⟩, hBq, ⟨.refl _, fun a u z => (era_none z).2, sB, fun a z _ => z⟩⟩, ?_⟩
  · unfold L2.start
    rw [hγ, List.length_append, List.length_append, List.length_map, List.length_map, List.length_replicate, List.length_replicate, List.length_append, List.length_append, paired_len hds]
    rfl
  · rw [hγ] at e
    have hi : i < (ds ++ [adr q]).length := by
      by_cases hi : i < (ds ++ [adr q]).length
      · exact hi
      · rw [List.getElem?_append_right (by rw [List.length_map]; omega), List.getElem?_replicate] at e
        split at e <;> cases e
    rw [List.getElem?_append_left (by rw [List.length_map]; exact hi), List.getElem?_map, Option.map_eq_some_iff] at e
    obtain ⟨z, e1, e2⟩ := e
    cases e2
    obtain ⟨v, e3, e4⟩ := hds'.get e1
    refine ⟨v, ?_, e4⟩
    unfold L2.start
    rw [List.getElem?_append_left (by rw [List.length_map, hds'.length]; exact hi), List.getElem?_map, e3]
    rfl
  · rw [List.getElem?_append_right (by rw [List.length_map]; exact Nat.le_of_eq hlen), List.length_map, hlen, Nat.sub_self]
    rfl
  · unfold callW at h
    cases hf : g (ds.map some ++ some (adr q) :: List.replicate (N.length - (ds.length + 1)) none) ls with
    | rt d ls' =>
      rw [hf] at h
      exact fun v B' H' x hb hx hv => h v B' H' x hb hx hv
    | nx γ ls' =>
      rw [hf] at h
      exact fun B' σ' H' R => h .non B' H' R.e R.b R.h .non
    | bk γ ls' => rw [hf] at h; exact False.elim h
    | ct γ ls' => rw [hf] at h; exact False.elim h
    | no => rw [hf] at h; exact False.elim h
end
/-! ### the call -/
section
variable {G : Gd} {ow : List Nat} {B H B' H' : Hp} {σ : L2.St} {γ : Env}
/-- the list of a slot of its own has been written elsewhere -/
theorem EnvR.lent (I : EnvR G ow B H σ γ) {i : Nat} {ls : List D} (hx : G.x = none) (hk : ow.getD i 0 = 1) (hg : γ[i]? = some (some (.list ls))) :
    ∃ p xs, σ[i]? = some (some (.ref p)) ∧ H p = some (.lst xs) ∧ DnAll G.K B xs ls ∧ B p = none ∧ ∀ B' H' ys es, Ext B (era p H) B' H' → B' p = none → H' p = some (.lst ys) → DnAll G.K B' ys es → EnvR G ow B' H' σ (γ.set i (some (.list es))) := by
  obtain ⟨own, h1, h2, h3⟩ := I.v
  obtain ⟨v, e, r⟩ := h3 i _ hg
  rw [hk] at r
  obtain ⟨p, xs, ds', rfl, q2, q3, q4, q5⟩ := r
  cases q2
  obtain ⟨b1, b2, b3⟩ := h1 i p q3
  refine ⟨p, xs, e, q4, q5, b1, fun B' H' ys es x hb hp hy => ?_⟩
  have nt : ∀ a, a ≠ p → NT H a → NT (era p H) a := fun a z ⟨o, e, n⟩ => ⟨o, by rw [era_ne z]; exact e, n⟩
  refine ⟨x.s, ⟨I.e.b.trans x.b, fun a u z => x.h a u ?_, x.s, fun a z1 z2 => ?_⟩, by rw [List.length_set, I.len], (fun t z => by rw [hx] at z; cases z), fun j a => if j = i then a = p else own j a, fun j a hj => ?_, fun j k a hj hk => ?_, fun j d q => ?_⟩
  · have : a ≠ p := fun y => by subst y; rw [b2] at z; cases z
    rw [era_ne this]; exact I.e.h a u z
  · have : a ≠ p := fun y => by subst y; exact z2.ne b2
    exact x.n a (I.e.n a z1 z2) (nt a this (z2.mono I.e.h))
  · dsimp only at hj
    split at hj
    · subst hj
      exact ⟨hb, b2, nt_lst hp⟩
    · rename_i hne
      obtain ⟨c1, c2, c3⟩ := h1 j a hj
      have : a ≠ p := fun y => by subst y; exact hne (h2 j i _ hj q3)
      exact ⟨x.n a c1 (nt a this c3), c2, (nt a this c3).mono x.h⟩
  · dsimp only at hj hk
    split at hj
    · rename_i e1
      split at hk
      · rename_i e2; rw [e1, e2]
      · subst hj
        exact e1.trans (h2 i k _ q3 hk)
    · split at hk
      · rename_i e2
        subst hk
        exact (h2 j i _ hj q3).trans e2.symm
      · exact h2 j k a hj hk
  · by_cases z : j = i
    · subst z
      have hj : j < γ.length := I.lt hg
      rw [List.getElem?_set_self hj] at q
      cases q
      refine ⟨_, e, ?_⟩
      rw [hk]
      exact ⟨p, ys, es, rfl, rfl, by dsimp only; rw [if_pos rfl], hp, hy⟩
    · rw [List.getElem?_set_ne (Ne.symm z)] at q
      obtain ⟨w, e1, r⟩ := h3 j d q
      refine ⟨w, e1, ?_⟩
      have e5 : (fun a => if j = i then a = p else own j a) = own j := by
        funext a; rw [if_neg z]
      show SR G.K (fun a => if j = i then a = p else own j a) B' H' _ w d
      rw [e5]
      exact (r.keepH (H' := era p H) fun a ha => era_ne fun y => by subst y; exact z (h2 j i _ ha q3)).mono x
end
/-- arguments, the last one an own list -/
def cAW (G : Gd) (ow : List Nat) (j : Nat) (f : Env → Rs (List D)) : TA := fun σ H Q => ∃ B γ, EnvR G ow B H σ γ ∧ RsP G σ B H (f γ) fun ds => ∀ vs v B' H', Ext B H B' H' → Paired (Dn G.K B') vs ds → σ[j]? = some (some v) → Q (vs ++ [v]) H'
section
variable {X : Cx} {x y z : Str} {p p1 p2 pos : Pos} {a e : Expr} {es : List Expr} {G : Gd} {ow ow' owL : List Nat} {f : Env → Rs D} {fs : Env → Rs (List D)} {k n : Nat} {fa : Addr} {fd : FuncData} {ps : List Str} {F : Addr → List D → List D → Rs (D × List D)}
abbrev awN (j : Nat) : Env → Rs (List D) := fun γ => (lsE γ j).bind fun _ => .ok []
abbrev awC (f : Env → Rs D) (fs : Env → Rs (List D)) : Env → Rs (List D) := fun γ => (f γ).bind fun d => (fs γ).bind fun ds => .ok (d :: ds)
theorem aw_nil (j : Nat) (hj : ow.getD j 0 = 1 := by rfl) (hx : G.x = none := by rfl) (hN : X.N[j]? = some y := by rfl) (hv : Vis X.env.scope y := by first | exact Or.inl rfl | exact Or.inr (Or.inl rfl) | exact Or.inr (Or.inr rfl)) (hd : (y == ("__debug__" : Str)) = false := by decide) (hcd : (y == ("__classdict__" : Str)) = false := by decide)
    (hst : starEach [.Name y p1] X.env = (false, eval (.Name y p1) X.env) :: starEach [] X.env := by rfl) : PA X [.Name y p1] (cAW G ow j (awN j)) :=
  (pa_cons (pe_var hN hv hd hcd) pa_nil hst).impD fun σ H Q ⟨B, γ, I, q⟩ => by
    obtain ⟨ls, hgi, q⟩ := q.bind.lsE
    obtain ⟨a, xs, e1, _, _, _⟩ := I.wr hx hj hgi
    exact ⟨.ref a, e1, q [] (.ref a) B H (.refl I.s) .nil e1⟩
theorem aw_cons (j : Nat) (he : PE X e (cV G ow 0 f)) (ha : PA X es (cAW G ow j fs)) (hst : starEach (e :: es) X.env = (false, eval e X.env) :: starEach es X.env := by rfl) : PA X (e :: es) (cAW G ow j (awC f fs)) :=
  (pa_cons he ha hst).impD fun σ H Q ⟨B, γ, I, q⟩ => ⟨B, γ, I, q.bind.imp fun d q v B1 H1 x1 hv => ⟨B1, γ, I.mono x1, q.bind.mono x1 fun ds q vs u B2 H2 x2 hvs hu => q (v :: vs) u B2 H2 (x1.trans x2) (.cons (Dn.mono x2.b hv) hvs) hu⟩⟩
noncomputable def sSetW (i j n : Nat) (fs : Env → Rs (List D)) (F : Addr → List D → List D → Rs (D × List D)) : Env → Out := fun γ => liftS ((fs γ).bind fun ds => (lsE γ j).bind fun ls => if ds.length + 1 = n then lendR fun q => noEr (F q ls ds) else .no) γ fun r => .nx ((γ.set j (some (.list r.2))).set i (some r.1))
/-- z = f(.., y): y an own list that is lent for writing -/
theorem s_setW (i j : Nat) (Fn : FnOk X.prog X.w X.K X.mg X.base (L2.CX X.prog X.w) k fa fd ps (spW X.K X.mg n F)) (hr : Room k X.A) (hm : X.mg x = some (.ref fa)) (hk : PySem.W.keepIn X.K (.ref fa) = true) (hb : Binds X.K fd ps []) (tk : Takes X G.W) (ha : PA X (e :: es) (cAW G ow j fs)) (hN : X.N.Nodup)
    (hw : ow.set i 0 = ow' := by rfl) (hj : ow.getD j 0 = 1 := by rfl) (hx : G.x = none := by rfl) (hi : X.N[i]? = some z := by rfl) (hz : Loc X.env.scope z := by first | exact .inl rfl | exact .inr rfl)
    (hst : starEach (e :: es) X.env = (false, eval e X.env) :: starEach es X.env := by rfl)
    (hg : Gl X x := by rfl) (hK : X.K = G.K := by rfl) (hdb : (x == ("__debug__" : Str)) = false := by decide) (hpl : (backTo pos (starEach es X.env)).any (·.1) = false := by rfl)
    (hs : swapsWith (.Call (.Name x p) (e :: es) [] pos) (some (.Name z p1)) p2.line X.env = pure false := by rfl) (hf : X.fn z = true ∨ X.env.scope.names.lookup z = some .local := by first | exact .inl rfl | exact .inr rfl | assumption) :
    PS X (.Assign [.Name z p1] (.Call (.Name x p) (e :: es) [] pos) p2) (cS G ow ow' owL (sSetW i j n fs F)) :=
  (ps_set hN hi hz (pe_callS Fn hr hg hm hk hb (fun σ => passAt tk σ) ha hdb hst hpl) hs hf).impD fun J σ H ⟨B, γ, I, q⟩ => by
    refine ⟨B, γ, I, (OutP.lift I q).bind.imp fun ds q vs v B1 H1 x1 hvs hv => ?_⟩
    obtain ⟨ls, hgi, q⟩ := q.bind.lsE
    obtain ⟨a, xs, e1, e2, e3, e4, fin⟩ := (I.mono x1).lent hx hj hgi
    rw [e1] at hv
    cases hv
    split at q
    · rename_i hn
      cases hF : F a ls ds with
      | ok r =>
        have hne : lendR (fun q => noEr (F q ls ds)) ≠ .no := fun z => by rw [z] at q; exact q
        rw [lendR_at a hne, hF] at q
        refine ⟨by rw [List.length_append, paired_len hvs]; exact hn, B1, a, vs, xs, ls, ds, rfl, x1.s, e4, e2, by rw [hK]; exact e3, by rw [hK]; exact hvs, ?_⟩
        rw [hF]
        intro v B' H' x hb' ⟨ys, hy1, hy2⟩ hv
        have I2 := fin B' H' ys r.2 x hb' hy1 (by rw [← hK]; exact hy2)
        have I3 := I2.set i hx (v := v) (d := r.1) (by rw [← hK]; exact hv)
        rw [hw] at I3
        exact q B' _ H' (x1.b.trans x.b) I3
      | er c fs =>
        have hne : lendR (fun q => noEr (F q ls ds)) ≠ .no := fun z => by rw [z] at q; exact q
        rw [lendR_at a hne, hF] at q
        exact q.elim
      | no =>
        have hne : lendR (fun q => noEr (F q ls ds)) ≠ .no := fun z => by rw [z] at q; exact q
        rw [lendR_at a hne, hF] at q
        exact q.elim
    · exact False.elim q
end
end DL
set_option Elab.async false
set_option linter.all false
set_option maxRecDepth 100000
set_option maxHeartbeats 4000000
/-! The data layer: isinstance(e, c) in a suite; {k: v, ..} with texts as keys; text * int. -/
namespace DL
open PySem PySem.Spec PyProof.Rows L2

/-- what the class D says, so that isinstance asks its errors rightly -/
structure XiC (K : PySem.W.Frag) (D : Addr) : Prop where
  x : XfC K D
  ha : PySem.W.findIn K (.ref D) "__class__" = some (some (.builtin "object.__class__"))
  hn : PySem.W.specialIn K (.builtin "object.__class__") "__get__" = some (some (.builtin "getset_descriptor.__get__"))
  ht : PySem.W.takesIn K (.builtin "object.__class__") = some true
  hm : PySem.W.mroIn K D (.type "object") = some true
def rIsX (K : PySem.W.Frag) (D a : Addr) (d : Option Addr) : List V → Hp → VK → Prop := fun xs H Q => ∃ (c : V) (cv : Value) (b : Bool) (dd : Addr) (fs : List (Str × V)), xs = [.ref a, c] ∧ (∀ u, RelV c u → u = cv) ∧ PySem.W.kitOne K (.ref D) cv = some b ∧ d = some dd ∧ H dd = some (.xd fs) ∧ Q (.bl b) H
theorem call_isX {X : Cx} {a D : Addr} {oe : Obj} {cls : Value} {d : Option Addr} {pn : List (Addr × Obj)} (C : XiC X.K D) (hz : Zc cls d oe) (hc : cls = .ref D) (hf : ∃ vs, oe.data = .fields vs) : CallR (X.suite a ((a, oe) :: pn)) (.builtin "isinstance") (rIsX X.K D a d) := by
  subst hc
  intro pins s σ H xs us Q I r h
  obtain ⟨c, cv, b, dd, fs, rfl, hcv, e, ed, ea, q⟩ := h
  subst ed
  cases r with
  | cons rx rr =>
    cases rr with
    | cons rt rr =>
      cases rr
      cases rx
      have ec := hcv _ rt
      subst ec
      obtain ⟨hget, _⟩ := I.pin (a, oe) (List.mem_append.mpr (.inl List.mem_cons_self))
      obtain ⟨vs, hv⟩ := hf
      have hx : ObjOk X.prog X.w H s.heap dd (.xd fs) := I.hok dd _ ea
      obtain ⟨mA, hns, hr⟩ := hx
      obtain ⟨od, ho, hl⟩ := lookIn_ns hns
      have J : PySem.W.InstAt s.heap a oe D (some od) := ⟨hget, hz.1, by unfold PySem.W.notCls; rw [hv] <;> rfl, by rw [hz.2]; exact ho⟩
      have hcl : (PySem.W.clsIn X.K D).isSome = true := by obtain ⟨cd, hc, _⟩ := PySem.W.any_some C.x.hdC; rw [hc]; rfl
      exact PySem.W.kia_one (PySem.W.kitx_exc hcl C.x.ga C.x.gg C.x.exC C.ha C.hn C.ht C.hm) I.kIn J e (fun z => nomatch z) fun tk => ⟨.bl b, H, I.kept (t' := tk) fun _ _ z => z, rfl, q⟩
section
variable {X : Cx} {a C : Addr} {oe : Obj} {cls : Value} {d : Option Addr} {pn : List (Addr × Obj)} {x n : Str} {p p1 p2 pos : Pos} {i : Nat} {G : Gd} {dd : Addr} {fs' : List (Str × V)} {fs : List (Str × D)} {B H : Hp} {cv : Value} {b : Bool} {ow : List Nat}
/-- isinstance(e, c), c an own class -/
theorem d_isE (T : XiC X.K C) {C2 : Addr} (h2 : X.mg n = some (.ref C2)) (hk : PySem.W.kitOne X.K (.ref C) (.ref C2) = some b) (hm : X.mg "isinstance" = none) (hz : Zc cls d oe) (hf : ∃ vs, oe.data = .fields vs) (hd : d = some dd) (hcl : cls = .ref C)
    (hi : X.N[i]? = some x := by rfl) (hv : Vis X.env.scope x := by first | exact Or.inl rfl | exact Or.inr (Or.inl rfl) | exact Or.inr (Or.inr rfl)) (hdb : (x == ("__debug__" : Str)) = false := by decide) (hcd : (x == ("__classdict__" : Str)) = false := by decide)
    (hg : Gl X "isinstance" := by rfl) (hgn : Gl X n := by rfl) (hdn : (n == ("__debug__" : Str)) = false := by decide)
    (he : starEach [.Name x p1, .Name n p2] X.env = (false, eval (.Name x p1) X.env) :: starEach [.Name n p2] X.env := by rfl) (hpl : (backTo pos (starEach [.Name n p2] X.env)).any (·.1) = false := by rfl) (he2 : starEach [.Name n p2] X.env = [(false, eval (.Name n p2) X.env)] := by rfl) :
    PE (X.suite a ((a, oe) :: pn)) (.Call (.Name "isinstance" p) [.Name x p1, .Name n p2] [] pos) (cV (G.sui (some i) a dd fs' B H) ow 0 fun _ => .ok (.bool b)) :=
  (pe_callB (X := X.suite a ((a, oe) :: pn)) (call_isX T hz hcl hf) hg hm rfl (pa_cons (pe_var (X := X.suite a ((a, oe) :: pn)) hi hv hdb hcd) (pa_cons (C8.pe_gc (X := X.suite a ((a, oe) :: pn)) (v := .ref C2) hgn ⟨_, h2, rfl⟩ hdn) pa_nil he2) he) (by decide) (by decide) he hpl).impD fun σ H' Q ⟨B', γ, I, q⟩ => by
    obtain ⟨x1, x2⟩ := I.x _ rfl
    exact ⟨.ref a, x1, .ref C2, .ref C2, b, dd, fs', rfl, fun u hu => hu, hk, hd, x2, q (.bl b) B' H' (.refl I.s) (.bl b)⟩
/-- .. c a built-in class -/
theorem d_isEB (T : XiC X.K C) {U : String} (h2 : X.mg n = none) (hvn : bootBuiltins n = some (.type U)) (hk : PySem.W.kitOne X.K (.ref C) (.type U) = some b) (hm : X.mg "isinstance" = none) (hz : Zc cls d oe) (hf : ∃ vs, oe.data = .fields vs) (hd : d = some dd) (hcl : cls = .ref C)
    (hi : X.N[i]? = some x := by rfl) (hv : Vis X.env.scope x := by first | exact Or.inl rfl | exact Or.inr (Or.inl rfl) | exact Or.inr (Or.inr rfl)) (hdb : (x == ("__debug__" : Str)) = false := by decide) (hcd : (x == ("__classdict__" : Str)) = false := by decide)
    (hg : Gl X "isinstance" := by rfl) (hgn : Gl X n := by rfl) (hdn : (n == ("__debug__" : Str)) = false := by decide) (hnn : n ≠ "__name__" := by decide)
    (he : starEach [.Name x p1, .Name n p2] X.env = (false, eval (.Name x p1) X.env) :: starEach [.Name n p2] X.env := by rfl) (hpl : (backTo pos (starEach [.Name n p2] X.env)).any (·.1) = false := by rfl) (he2 : starEach [.Name n p2] X.env = [(false, eval (.Name n p2) X.env)] := by rfl) :
    PE (X.suite a ((a, oe) :: pn)) (.Call (.Name "isinstance" p) [.Name x p1, .Name n p2] [] pos) (cV (G.sui (some i) a dd fs' B H) ow 0 fun _ => .ok (.bool b)) :=
  (pe_callB (X := X.suite a ((a, oe) :: pn)) (call_isX T hz hcl hf) hg hm rfl (pa_cons (pe_var (X := X.suite a ((a, oe) :: pn)) hi hv hdb hcd) (pa_cons (pe_bltn (X := X.suite a ((a, oe) :: pn)) (v := .ty U) hgn h2 hvn rfl hnn hdn) pa_nil he2) he) (by decide) (by decide) he hpl).impD fun σ H' Q ⟨B', γ, I, q⟩ => by
    obtain ⟨x1, x2⟩ := I.x _ rfl
    exact ⟨.ref a, x1, .ty U, .type U, b, dd, fs', rfl, fun u hu => hu, hk, hd, x2, q (.bl b) B' H' (.refl I.s) (.bl b)⟩
end
theorem kit_ref {K : PySem.W.Frag} {C C2 : Addr} {b : Bool} (h : PySem.W.subIn K (.ref C) (.ref C2) = some b) (hd : PySem.W.hasDictIn K C2 = true) (ht : PySem.W.typeIn K (.ref C2) = some (.type "type")) (hne : ((Value.ref C : Value) == Value.ref C2) = true → b = true) : PySem.W.kitOne K (.ref C) (.ref C2) = some b := by
  unfold PySem.W.kitOne
  split
  · rename_i z
    rw [hne z]
  · show (if _ then _ else _) = _
    obtain ⟨cd, hc, _⟩ := PySem.W.any_some hd
    rw [if_pos (by rw [hc, ht]; rfl)]
    exact h
theorem kit_typ {K : PySem.W.Frag} {C : Addr} {U : String} {b : Bool} (h : PySem.W.subIn K (.ref C) (.type U) = some b) (hk : PySem.W.kitMeta U = true := by decide +kernel) : PySem.W.kitOne K (.ref C) (.type U) = some b := by
  unfold PySem.W.kitOne
  rw [if_neg (by intro z; cases beq_iff_eq.mp z)]
  show (if _ then _ else _) = _
  rw [if_pos hk]
  exact h
/-! text * int -/
def repS (x : Str) (n : Int) : Str := ⟨(List.replicate n.toNat x.cps).foldl (· ++ ·) #[]⟩
theorem op_mulS {X : Cx} : OpR X (binaryOp .Mult) (fun x y H Q => ∃ (i : Str) (n : Int), x = .str i ∧ y = .int n ∧ (2 ≤ n ∧ n ≤ 1000) ∧ (1 ≤ i.length ∧ i.length ≤ 1000) ∧ Q (.str (repS i n)) H) := by
  intro pins s σ H x y v u Q I rx ry h
  obtain ⟨i, n, rfl, rfl, hn, hi, q⟩ := h
  obtain ⟨t, rfl⟩ := rx
  obtain ⟨t', rfl⟩ := ry
  have hb : (n == 1 || i.length == 0) = false := by
    rw [beq_eq_false_iff_ne.mpr (by omega), beq_eq_false_iff_ne.mpr (by omega)]; rfl
  have hm : i.length * n.toNat ≤ 1000000 := Nat.le_trans (Nat.mul_le_mul hi.2 (show n.toNat ≤ 1000 by omega)) (by decide)
  refine PySem.P.mul_str ?_ (fun _ _ => ?_) (fun _ _ => ?_) ?_
  · rw [decide_eq_false (by omega), decide_eq_false (by omega)]; rfl
  · have : (1000 : Int) ≤ (2 ^ 63 - 1) / n := Int.le_ediv_of_mul_le (by omega) (by omega)
    omega
  · exact decide_eq_false (by rw [sizeLine_eq]; omega)
  · rw [if_neg (by omega), if_neg (by rw [hb]; decide)]
    refine ⟨fits_reps (decide_eq_false (by rw [sizeLine_eq]; omega)), .str (repS i n), H, I.tok _, ⟨_, rfl⟩, q⟩
def mulSD : D → D → Option D
  | .str i, .int n => if (2 ≤ n ∧ n ≤ 1000) ∧ (1 ≤ i.length ∧ i.length ≤ 1000) then some (.str (repS i n)) else none
  | _, _ => none
theorem hr_mulS {K : PySem.W.Frag} : HR K (fun x y H Q => ∃ (i : Str) (n : Int), x = .str i ∧ y = .int n ∧ (2 ≤ n ∧ n ≤ 1000) ∧ (1 ≤ i.length ∧ i.length ≤ 1000) ∧ Q (.str (repS i n)) H) mulSD := by
  refine ⟨?_⟩; intro B H x y d e z Q s hx hy hz q
  unfold mulSD at hz
  split at hz
  · rename_i i n
    split at hz
    · rename_i hc
      cases hz
      exact ⟨i, n, hx.str, hy.int, hc.1, hc.2, q _ B H (.refl s) (.str _)⟩
    · cases hz
  · cases hz
theorem d_mulS {X : Cx} {a b : Expr} {pos : Pos} {G : Gd} {ow : List Nat} {f g : Env → Rs D} (ha : PE X a (cV G ow 1 f)) (hb : PE X b (cV G ow 1 g)) : PE X (.BinOp a .Mult b pos) (cV G ow 0 (b2 f g mulSD)) := d_bin hr_mulS op_mulS ha hb
/-! {"..": n, ..} -/
def trsC (l : List (Str × Int)) : List (TE × TE) := l.map fun q => (tC (.str q.1), tC (.int q.2))
theorem tPairs_c {σ : L2.St} {H : Hp} : ∀ (l : List (Str × Int)) (Q : List (V × V) → Hp → Prop), Q (l.map fun q => (.str q.1, .int q.2)) H → tPairs (trsC l) σ H Q
  | [], Q, q => q
  | (k, n) :: r, Q, q => tPairs_c r _ q
def mk3C (l : List (Str × Int)) : D := mk3 (l.foldl (fun acc q => putG acc (.inr q.1) (.int q.2)) [])
theorem merge_rel {K : PySem.W.Frag} {B : Hp} : ∀ (l : List (Str × Int)) {kvs : List (Key × V)} {es : List (Key × D)}, PrR K B kvs es → PrR K B (mergeK kvs (l.map fun q => (.inr q.1, .int q.2))) (l.foldl (fun acc q => putG acc (.inr q.1) (.int q.2)) es)
  | [], _, _, h => h
  | (k, n) :: r, _, _, h => merge_rel r (pr_put h (.int n))
@[simp] abbrev sDispC (i : Nat) (l : List (Str × Int)) : Env → Out := fun γ => .nx (γ.set i (some (mk3C l)))
section
variable {X : Cx} {x : Str} {p' p1 pos : Pos} {G : Gd} {ow ow' owL : List Nat} {keys : List (Option Expr)} {values : List Expr}
theorem s_dispC (i : Nat) (l : List (Str × Int)) (hN : X.N.Nodup) (hp : PPs X pos keys values (trsC l)) (hall : keys.all (·.isSome) = true := by rfl) (hl : keys.length = values.length := by rfl) (h0 : keys ≠ [] := by decide) (h15 : keys.length ≤ 15 := by decide) (hll : l.length ≤ 15 := by decide)
    (hw : ow.set i 3 = ow' := by rfl) (hlt : i < ow.length := by decide) (hi : X.N[i]? = some x := by rfl) (hx : Loc X.env.scope x := by first | exact .inl rfl | exact .inr rfl) (hg : G.x = none := by rfl)
    (hs : swapsWith (.Dict keys values pos) (some (.Name x p')) p1.line X.env = pure false := by rfl) (hf : X.fn x = true ∨ X.env.scope.names.lookup x = some .local := by first | exact .inl rfl | exact .inr rfl | assumption) :
    PS X (.Assign [.Name x p'] (.Dict keys values pos) p1) (cS G ow ow' owL (sDispC i l)) :=
  (ps_set hN hi hx (pe_disp hp hall hl h0 h15) hs hf).impD fun J σ H ⟨B, γ, I, q⟩ => fun p hp => by
    refine tPairs_c l _ ⟨upd_same, l.map fun q => (.inr q.1, .int q.2), by rw [List.map_map]; rfl, by rw [List.length_map]; exact hll, ?_⟩
    rw [upd_upd]
    refine q B _ _ (.refl _) ?_
    rw [← hw]
    exact I.setO i hg hlt (.hid I.s hp) hp (same_none I.s hp) ⟨_, upd_same, fun _ z => nomatch z⟩ ⟨p, _, _, rfl, rfl, rfl, upd_same, kv_of (merge_rel l .nil)⟩
end
/-! a statement that is never met -/
@[simp] abbrev sNo : Env → Out := fun _ => .no
theorem s_no {X : Cx} {st : Stmt} {G : Gd} {ow owN owL : List Nat} : PS X st (cS G ow owN owL sNo) := ⟨fun pins s σ H J I ⟨B, γ, I', q⟩ => q.elim⟩
end DL
set_option Elab.async false
set_option linter.all false
set_option maxRecDepth 100000
set_option maxHeartbeats 4000000
/-! The data layer: sorted(xs), xs a list of lists, or of tuples, of ints. -/
namespace DL
open PySem PySem.Spec PyProof.Rows L2

def lexI : List Int → List Int → Bool
  | [], [] => false
  | [], _ :: _ => true
  | _ :: _, [] => false
  | a :: r, b :: q => if a = b then lexI r q else decide (a < b)
theorem lexI_asym : ∀ a b : List Int, lexI a b = true → lexI b a = false
  | [], [], _ => rfl
  | [], _ :: _, _ => rfl
  | _ :: _, [], h => by cases h
  | a :: r, b :: q, h => by
    unfold lexI at h ⊢
    by_cases e : a = b
    · subst e
      rw [if_pos rfl] at h ⊢
      exact lexI_asym r q h
    · rw [if_neg e] at h
      rw [if_neg (Ne.symm e)]
      have := of_decide_eq_true h
      exact decide_eq_false (by omega)
theorem lexI_tr : ∀ a b c : List Int, lexI b a = false → lexI c b = false → lexI c a = false
  | [], _, [], _, _ => rfl
  | [], [], _ :: _, _, h2 => h2
  | [], _ :: _, _ :: _, _, _ => rfl
  | _ :: _, [], _, h1, _ => by cases h1
  | _ :: _, _ :: _, [], _, h2 => by cases h2
  | a :: r, b :: q, c :: s, h1, h2 => by
    unfold lexI at h1 h2 ⊢
    by_cases e : c = a
    · subst e
      rw [if_pos rfl]
      by_cases e2 : b = c
      · subst e2
        rw [if_pos rfl] at h1 h2
        exact lexI_tr r q s h1 h2
      · rw [if_neg e2] at h1
        rw [if_neg (Ne.symm e2)] at h2
        have := of_decide_eq_false h1
        have := of_decide_eq_false h2
        omega
    · rw [if_neg e]
      by_cases e2 : b = a
      · subst e2
        rw [if_neg e] at h2
        exact h2
      · rw [if_neg e2] at h1
        have h1 := of_decide_eq_false h1
        by_cases e3 : c = b
        · subst e3
          exact decide_eq_false h1
        · rw [if_neg e3] at h2
          have h2 := of_decide_eq_false h2
          exact decide_eq_false (by omega)
theorem lexI_eq : ∀ a b : List Int, lexI a b = false → lexI b a = false → a = b
  | [], [], _, _ => rfl
  | [], _ :: _, h, _ => by cases h
  | _ :: _, [], _, h => by cases h
  | a :: r, b :: q, h1, h2 => by
    unfold lexI at h1 h2
    by_cases e : a = b
    · subst e
      rw [if_pos rfl] at h1 h2
      rw [lexI_eq r q h1 h2]
    · rw [if_neg e] at h1
      rw [if_neg (Ne.symm e)] at h2
      have := of_decide_eq_false h1
      have := of_decide_eq_false h2
      omega
theorem swo_lexI (k : Value → List Int) : SrtO.Swo (fun v u => lexI (k v) (k u)) := ⟨fun x y => lexI_asym _ _, fun x y z => lexI_tr _ _ _⟩
/-- sorted: the smaller ones ahead -/
def SL (l : List (List Int)) : Prop := l.Pairwise fun a b => lexI b a = false
theorem SL_uniq : ∀ {l m : List (List Int)}, l.Perm m → SL l → SL m → l = m
  | [], m, p, _, _ => (List.Perm.eq_nil p.symm).symm
  | x :: l, [], p, _, _ => absurd p.length_eq (by simp)
  | x :: l, y :: m, p, h1, h2 => by
    have a1 := List.pairwise_cons.mp h1
    have a2 := List.pairwise_cons.mp h2
    have e : x = y := by
      rcases List.mem_cons.mp (p.mem_iff.mp List.mem_cons_self) with e | hx
      · exact e
      · rcases List.mem_cons.mp (p.mem_iff.mpr List.mem_cons_self) with e | hy
        · exact e.symm
        · exact lexI_eq x y (a2.1 x hx) (a1.1 y hy)
    subst e
    rw [SL_uniq p.cons_inv a1.2 a2.2]
def insL (x : List Int) : List (List Int) → List (List Int)
  | [] => [x]
  | y :: r => if lexI y x = true then y :: insL x r else x :: y :: r
def srtLs : List (List Int) → List (List Int)
  | [] => []
  | x :: r => insL x (srtLs r)
theorem insL_perm (x : List Int) : ∀ l, (insL x l).Perm (x :: l)
  | [] => .refl _
  | y :: r => by
    unfold insL
    split
    · exact ((insL_perm x r).cons y).trans (List.Perm.swap x y r)
    · exact .refl _
theorem srtLs_perm : ∀ l, (srtLs l).Perm l
  | [] => .refl _
  | x :: r => (insL_perm x _).trans ((srtLs_perm r).cons x)
theorem insL_sl (x : List Int) : ∀ {l}, SL l → SL (insL x l)
  | [], _ => List.pairwise_singleton _ _
  | y :: r, h => by
    have a := List.pairwise_cons.mp h
    unfold insL
    split
    · rename_i hxy
      refine List.pairwise_cons.mpr ⟨fun z hz => ?_, insL_sl x a.2⟩
      rcases List.mem_cons.mp ((insL_perm x r).mem_iff.mp hz) with rfl | hz
      · exact lexI_asym _ _ hxy
      · exact a.1 z hz
    · rename_i hxy
      have hxy : lexI y x = false := by simpa using hxy
      refine List.pairwise_cons.mpr ⟨fun z hz => ?_, h⟩
      rcases List.mem_cons.mp hz with rfl | hz
      · exact hxy
      · exact lexI_tr _ _ _ hxy (a.1 z hz)
theorem srtLs_sl : ∀ l, SL (srtLs l)
  | [] => .nil
  | x :: r => insL_sl x (srtLs_sl r)
/-! comparing -/
theorem firstLt_succ {e r : Nat → Bool} {fin : Bool} : ∀ l : List Nat, SeqAt.firstLt e r fin (l.map Nat.succ) = SeqAt.firstLt (fun j => e (j + 1)) (fun j => r (j + 1)) fin l
  | [] => rfl
  | j :: t => by
    rw [List.map_cons]
    show (if e (j + 1) = true then SeqAt.firstLt e r fin (t.map Nat.succ) else r (j + 1)) = (if e (j + 1) = true then _ else _)
    rw [firstLt_succ t]
theorem firstLt_lex : ∀ (ns ms : List Int), SeqAt.firstLt (fun j => ns.getD j 0 == ms.getD j 0) (fun j => decide (ns.getD j 0 < ms.getD j 0)) (decide (ns.length < ms.length)) (List.range (min ns.length ms.length)) = lexI ns ms
  | [], [] => rfl
  | [], _ :: _ => by simp [SeqAt.firstLt, lexI]
  | _ :: _, [] => by simp [SeqAt.firstLt, lexI]
  | a :: r, b :: q => by
    have e : min (a :: r).length (b :: q).length = min r.length q.length + 1 := by simp only [List.length_cons]; omega
    rw [e, List.range_succ_eq_map]
    show (if (a == b) = true then SeqAt.firstLt _ _ _ ((List.range (min r.length q.length)).map Nat.succ) else decide (a < b)) = lexI (a :: r) (b :: q)
    rw [firstLt_succ]
    unfold lexI
    have ih := firstLt_lex r q
    have el : decide ((a :: r).length < (b :: q).length) = decide (r.length < q.length) := by
      rw [decide_eq_decide]; simp
    rw [el]
    by_cases h : a = b
    · rw [if_pos (beq_iff_eq.mpr h), if_pos h]
      exact ih
    · rw [if_neg (by simpa using h), if_neg h]
section
variable {prog : Program} {w : World} {A : Around} {E : Value → Shared → Prop} {s : Shared}
theorem lists_cmp {vs : List Value} {k : Value → List Int} (hu : A.units < cLine) (hp : ∀ v ∈ vs, ∃ t its, v = .ref t ∧ s.heap.IsList t its.toArray ∧ IntsAre its (k v)) : SrtO.Cmp prog w A s oneType' (fun p => p.1 ∈ vs) (SrtO.lt2 fun v u => lexI (k v) (k u)) := by
  intro p q hm hm'
  have h1 := hp _ hm
  have h2 := hp _ hm'
  show wpAny (model prog w) A (keyLt' oneType' p.1 q.1) (fun r s' => s' = s ∧ r = lexI (k p.1) (k q.1)) (fun _ _ => False) s
  generalize k p.1 = ns at *
  generalize k q.1 = ms at *
  obtain ⟨t, its, e, hl, hi⟩ := h1
  obtain ⟨t', its', e', hl', hi'⟩ := h2
  rw [e, e', keyLt'_oneType, oneLt'_eq]
  simp only [if_true]
  have at1 : ∀ j (h1 : j < its.toArray.size), ∃ t, its.toArray[j] = .int (ns.getD j 0) t := fun j h1 => PyProof.Rows.IntsAre.int_at hi _ _ (by simp at h1; simp [h1])
  have at2 : ∀ j (h1 : j < its'.toArray.size), ∃ t, its'.toArray[j] = .int (ms.getD j 0) t := fun j h1 => PyProof.Rows.IntsAre.int_at hi' _ _ (by simp at h1; simp [h1])
  have l1 : its.toArray.size = ns.length := by rw [List.size_toArray]; exact hi.length
  have l2 : its'.toArray.size = ms.length := by rw [List.size_toArray]; exact hi'.length
  refine wpAny_bind (wpAny_cRoomFor hu ?_)
  refine wpAny_bind (wpAny_callSpecialIfBound?_slot (T := "list") (by obtain ⟨o, h1, h2, _⟩ := hl; exact ⟨o, h1, h2⟩) F.slot_list_lt (SeqAt.call_list_lt (e := fun j => ns.getD j 0 == ms.getD j 0) (r := fun j => decide (ns.getD j 0 < ms.getD j 0)) hl hl' (fun j h1 h2 => ?_) (fun j h1 h2 _ => ?_) ?_))
  · obtain ⟨t, et⟩ := at1 j h1
    obtain ⟨t', et'⟩ := at2 j h2
    rw [et, et']
    exact SeqAt.EqAt.int_int _ _ _ _
  · obtain ⟨t, et⟩ := at1 j h1
    obtain ⟨t', et'⟩ := at2 j h2
    rw [et, et']
    exact fun _ _ _ _ h => PyProof.Rows.lt_int h
  · rw [l1, l2, firstLt_lex]
    exact wpAny_truthy_bool ⟨rfl, rfl⟩
theorem lists_kind {vs : List Value} (h2 : 2 ≤ vs.length) (hp : ∀ v ∈ vs, ∃ t its, v = Value.ref t ∧ s.heap.IsList t its) (Q : SortKind → Shared → Prop) (h : Q oneType' s) : wpAny (model prog w) A (keyKind' vs.toArray) Q E s := by
  refine PySem.W.kas_kind (T := .type "list") h2 (fun v hv => ?_) (by decide) (by decide) h
  obtain ⟨t, its, rfl, o, h1, h2, _⟩ := hp v hv
  exact h2 ▸ (show PySem.W.Looks (model prog w) s.heap (typeOf (.ref t)) o.cls from (PySem.W.Looks.ld h1).andThen .now)
theorem lex_kat {b fin : Bool} {Q : Bool → Shared → Prop} {xs ys : List Value} {ns ms : List Int} (i : Nat) (hx : IntsAre xs ns) (hy : IntsAre ys ms) (hf : fin = decide (ns.length < ms.length)) (h : Q (lexI ns ms) s) : PySem.W.KatLex prog w A b fin Q (xs.zip ys) i s := by
  induction hx generalizing ys ms i with
  | nil =>
    refine PySem.W.kat_nil ?_
    rw [hf]
    cases hy with
    | nil => exact h
    | cons q u hy => simpa [lexI] using h
  | @cons p t xs ns hx ih =>
    cases hy with
    | nil =>
      refine PySem.W.kat_nil ?_
      rw [hf]
      simpa [lexI] using h
    | @cons q u ys ms hy =>
      refine PySem.W.kat_cons (wpAny_eqBool_int ?_)
      unfold lexI at h
      by_cases e : p = q
      · subst e
        rw [if_pos rfl] at h
        rw [beq_self_eq_true]
        exact PySem.W.kat_yes (ih (i + 1) hy (by rw [hf, decide_eq_decide]; simp) h)
      · rw [if_neg e] at h
        rw [show (p == q) = false from beq_eq_false_iff_ne.mpr e]
        exact PySem.W.kat_no (TS.oneLt_ints _ h)
theorem tups_cmp {vs : List Value} {k : Value → List Int} (b : Bool) (hp : ∀ v ∈ vs, ∃ t its, v = .ref t ∧ IsTup s.heap t its.toArray ∧ IntsAre its (k v)) : SrtO.Cmp prog w A s (tuples' b) (fun p => p.1 ∈ vs) (SrtO.lt2 fun v u => lexI (k v) (k u)) := by
  intro p q hm hm'
  have h1 := hp _ hm
  have h2 := hp _ hm'
  show wpAny (model prog w) A (keyLt' (tuples' b) p.1 q.1) (fun r s' => s' = s ∧ r = lexI (k p.1) (k q.1)) (fun _ _ => False) s
  generalize k p.1 = ns at *
  generalize k q.1 = ms at *
  obtain ⟨t, its, e, ⟨o, ho, hc, n, hd⟩, hi⟩ := h1
  obtain ⟨t', its', e', ⟨o', ho', hc', n', hd'⟩, hi'⟩ := h2
  rw [e, e']
  refine PySem.W.kat_lt ho hd ho' hd' ?_
  refine lex_kat (ns := ns) (ms := ms) 0 (by simpa using hi) (by simpa using hi') ?_ ⟨rfl, rfl⟩
  rw [List.size_toArray, List.size_toArray, hi.length, hi'.length]
theorem tups_firsts {h : Heap} {k : Value → List Int} : ∀ vs : List Value, (∀ v ∈ vs, k v ≠ [] ∧ ∃ t its, v = .ref t ∧ IsTup h t its.toArray ∧ IntsAre its (k v)) → ∃ fs, PySem.W.KatTups h vs fs ∧ fs.length = vs.length ∧ ∀ f, f ∈ fs → ∃ n t, f = Value.int n t
  | [], _ => ⟨[], PySem.W.KatTups.nil, rfl, fun f hf => by simp at hf⟩
  | v :: vs, x => by
    obtain ⟨fs, kt, hl, hi⟩ := tups_firsts vs fun u hu => x u (List.mem_cons_of_mem _ hu)
    obtain ⟨hne, t, its, ev, ⟨o, ho, hc, n, hdt⟩, i⟩ := x v (List.mem_cons_self ..)
    generalize k v = ns at *
    subst ev
    cases i with
    | nil => exact absurd rfl hne
    | @cons m tk ys ns' i =>
      refine ⟨Value.int m tk :: fs, PySem.W.KatTups.cons ho hc hdt ?_ kt, by simp [hl], ?_⟩
      · simp
      · intro f hf
        rcases List.mem_cons.mp hf with rfl | hf
        · exact ⟨m, tk, rfl⟩
        · exact hi f hf
theorem tups_kind {vs : List Value} {k : Value → List Int} (h2 : 2 ≤ vs.length) (hp : ∀ v ∈ vs, k v ≠ [] ∧ ∃ t its, v = .ref t ∧ IsTup s.heap t its.toArray ∧ IntsAre its (k v)) (Q : SortKind → Shared → Prop) (h : Q (tuples' true) s) : wpAny (model prog w) A (keyKind' vs.toArray) Q E s := by
  obtain ⟨fs, h1, h2', h3⟩ := tups_firsts vs hp
  refine PySem.W.kat_kind (T := .type "int") h1 (by omega) (fun f hm => ?_) (by rfl) ?_
  · obtain ⟨x, t, rfl⟩ := h3 f hm
    exact PySem.W.Looks.now
  · have e : (Value.type "int" != Value.type "tuple") = true := by first | decide +kernel | rfl | decide
    rw [e]
    exact h
end
/-! as a rule -/
def rSrtL (K : PySem.W.Frag) : List V → Hp → VK → Prop := fun vs H Q => ∃ (a : Addr) (xs : List V) (k : V → List Int), vs = [.ref a] ∧ SqL K H a xs ∧
  ((∀ x ∈ xs, ∃ t, x = .ref t ∧ SqL K H t ((k x).map V.int)) ∨ (∀ x ∈ xs, k x ≠ [] ∧ ∃ t, x = .ref t ∧ SqT K H t ((k x).map V.int))) ∧
  ∀ ys p, ys.Perm xs → ys.Pairwise (fun x y => lexI (k y) (k x) = false) → H p = none → Q (.ref p) (upd H p (.lst ys))
theorem cr_srtL {X : Cx} (hu : X.A.units + 2 < cLine) : CallR X (.builtin "sorted") (rSrtL X.K) := by
  intro pins s σ H vs us Q I r h
  obtain ⟨a, xs, k, rfl, hs, hx, q⟩ := h
  obtain ⟨its, rv, hl, hz⟩ := I.list hs
  obtain ⟨u, rfl, ru⟩ := vals1 r
  obtain rfl : u = Value.ref a := ru
  obtain ⟨e1, e2⟩ := refs_back rv fun x m => by
    rcases hx with hx | hx
    · obtain ⟨t, e, _⟩ := hx x m
      exact ⟨t, e⟩
    · obtain ⟨_, t, e, _⟩ := hx x m
      exact ⟨t, e⟩
  have hmem : ∀ t, Value.ref t ∈ its → V.ref t ∈ xs := fun t hv => by rw [e1]; exact List.mem_map.mpr ⟨_, hv, rfl⟩
  refine SrtO.sorted_ord (swo_lexI fun u => k (backV u)) hl.isList (by rw [← rv.length]; exact hz) (fun h2 h₁ c hc kk => ?_) fun out h1 h2 => ?_
  · intro h' keep
    have kk' : ∀ b o, s.heap.get? b = some o → h'.get? b = some o := fun b o e => keep b o (kk b o e).1 (kk b o e).2
    rcases hx with hx | hx
    · have hp : ∀ v ∈ its, ∃ t its2, v = Value.ref t ∧ h'.IsList t its2.toArray ∧ IntsAre its2 (k (backV v)) := fun v hv => by
        obtain ⟨t, rfl⟩ := e2 v hv
        obtain ⟨t', e, ht⟩ := hx _ (hmem t hv)
        cases e
        obtain ⟨its2, r2, hl2, _⟩ := I.list ht
        obtain ⟨o, g1, g2⟩ := hl2.isList
        exact ⟨t, its2, rfl, ⟨o, kk' _ _ g1, g2⟩, r2.ints⟩
      refine ⟨oneType', fun Q E hq => lists_kind (s := { s with heap := h' }) h2 (fun v hv => ?_) Q hq, lists_cmp (s := { s with heap := h' }) (by show X.A.units + 1 + 1 < cLine; omega) hp⟩
      obtain ⟨t, its2, e, hl2, _⟩ := hp v hv
      exact ⟨t, _, e, hl2⟩
    · have hp : ∀ v ∈ its, k (backV v) ≠ [] ∧ ∃ t its2, v = Value.ref t ∧ IsTup h' t its2.toArray ∧ IntsAre its2 (k (backV v)) := fun v hv => by
        obtain ⟨t, rfl⟩ := e2 v hv
        obtain ⟨hne, t', e, ht⟩ := hx _ (hmem t hv)
        cases e
        obtain ⟨its2, r2, ⟨o, g1, g2⟩, _⟩ := I.tuple ht
        exact ⟨hne, t, its2, rfl, ⟨o, kk' _ _ g1, g2⟩, r2.ints⟩
      exact ⟨tuples' true, fun Q E hq => tups_kind (s := { s with heap := h' }) h2 hp Q hq, tups_cmp (s := { s with heap := h' }) true fun v hv => (hp v hv).2⟩
  · obtain ⟨ep, he'⟩ := PyProof.Rows.sortedAll_at s.heap its out.toArray
    have h3 : ∀ u ∈ out, ∃ a, u = Value.ref a := fun u hu => e2 u (h2.perm.mem_iff.mp hu)
    have hp : (out.map backV).Perm xs := by rw [e1]; exact h2.perm.map backV
    have hlen : (out.map backV).length ≤ sizeLine := by rw [hp.length_eq]; exact hz
    exact ⟨.ref _, upd H (s.heap.objs.size + 1) (.lst (out.map backV)), I.laid (t' := s.toks) (fun _ _ => PyProof.Rows.sortedAll_old) (Nat.le_succ _) ⟨hlen, out, ep, vals_back h3, he'⟩, rfl, q _ _ hp (List.pairwise_map.mpr h1) (I.hok.fresh (Nat.le_succ _))⟩
def keyLs : D → Option (List Int)
  | .list ds => intsO ds
  | _ => none
def keyTs : D → Option (List Int)
  | .tuple ds => (intsO ds).bind fun ns => if ns = [] then none else some ns
  | _ => none
def keysM (f : D → Option (List Int)) : List D → Option (List (List Int))
  | [] => some []
  | d :: ds => (f d).bind fun k => (keysM f ds).map fun ks => k :: ks
def lsO (ns : List Int) : D := .list (ns.map .int)
def tpO (ns : List Int) : D := .tuple (ns.map .int)
/-- sorted(xs): lists, or tuples, of ints -/
def srtM : List D → Option (List D)
  | [.list ds] => match keysM keyLs ds with
    | some ks => some ((srtLs ks).map lsO)
    | none => (keysM keyTs ds).map fun ks => (srtLs ks).map tpO
  | _ => none
theorem keyLs_eq {d : D} {ns : List Int} (h : keyLs d = some ns) : d = lsO ns := by
  unfold keyLs at h
  split at h
  · rw [intsO_some h]; rfl
  · cases h
theorem keyTs_eq {d : D} {ns : List Int} (h : keyTs d = some ns) : d = tpO ns ∧ ns ≠ [] := by
  unfold keyTs at h
  split at h
  · rename_i ds
    cases hi : intsO ds with
    | none => rw [hi] at h; cases h
    | some ms =>
      rw [hi] at h
      replace h : (if ms = [] then none else some ms) = some ns := h
      split at h
      · cases h
      · cases h
        exact ⟨by rw [intsO_some hi]; rfl, by assumption⟩
  · cases h
theorem intsO_map' : ∀ ns : List Int, intsO (ns.map .int) = some ns
  | [] => rfl
  | i :: r => by
    show (intsO (r.map .int)).map _ = _
    rw [intsO_map' r]
    rfl
theorem vint_inj : ∀ {a b : List Int}, a.map V.int = b.map V.int → a = b
  | [], [], _ => rfl
  | [], _ :: _, h => by cases h
  | _ :: _, [], h => by cases h
  | x :: a, y :: b, h => by
    rw [List.map_cons, List.map_cons] at h
    injection h with h1 h2
    cases h1
    rw [vint_inj h2]
section
variable {K : PySem.W.Frag} {B : Hp}
theorem rd_one {t : Addr} {xs ys : List V} (h1 : Rd B t (.lst xs)) (h2 : Rd B t (.lst ys)) : xs = ys := by
  rcases h1 with h1 | ⟨o, h1⟩ <;> rcases h2 with h2 | ⟨o', h2⟩ <;> rw [h1] at h2 <;> cases h2 <;> rfl
theorem dn_ls_inj {x : V} {a b : List Int} (h1 : Dn K B x (lsO a)) (h2 : Dn K B x (lsO b)) : a = b := by
  obtain ⟨p, xs, e1, r1, a1⟩ : ∃ p xs, x = .ref p ∧ Rd B p (.lst xs) ∧ DnAll K B xs (a.map .int) := by cases h1 with | lst r a => exact ⟨_, _, rfl, r, a⟩
  obtain ⟨q, ys, e2, r2, a2⟩ : ∃ p xs, x = .ref p ∧ Rd B p (.lst xs) ∧ DnAll K B xs (b.map .int) := by cases h2 with | lst r a => exact ⟨_, _, rfl, r, a⟩
  rw [e1] at e2
  cases e2
  have := rd_one r1 r2
  subst this
  exact vint_inj (a1.ints.symm.trans a2.ints)
theorem dn_tp_inj {x : V} {a b : List Int} (h1 : Dn K B x (tpO a)) (h2 : Dn K B x (tpO b)) : a = b := by
  obtain ⟨p, xs, e1, r1, a1⟩ : ∃ p xs, x = .ref p ∧ B p = some (.tup xs) ∧ DnAll K B xs (a.map .int) := by cases h1 with | tup r a => exact ⟨_, _, rfl, r, a⟩
  obtain ⟨q, ys, e2, r2, a2⟩ : ∃ p xs, x = .ref p ∧ B p = some (.tup xs) ∧ DnAll K B xs (b.map .int) := by cases h2 with | tup r a => exact ⟨_, _, rfl, r, a⟩
  rw [e1] at e2
  cases e2
  rw [r1] at r2
  cases r2
  exact vint_inj (a1.ints.symm.trans a2.ints)
open Classical in
/-- the key of a thing, told by a reading -/
noncomputable def keyC (R : V → List Int → Prop) (x : V) : List Int := if h : ∃ ns, R x ns then h.choose else []
theorem keyC_eq {R : V → List Int → Prop} (hR : ∀ x a b, R x a → R x b → a = b) {x : V} {ns : List Int} (h : R x ns) : keyC R x = ns := by
  unfold keyC
  have he : ∃ ns, R x ns := ⟨ns, h⟩
  rw [dif_pos he]
  exact hR x _ _ he.choose_spec h
theorem keys_vals {f : D → Option (List Int)} {e : List Int → D} (hf : ∀ d ns, f d = some ns → d = e ns) (hR : ∀ x a b, Dn K B x (e a) → Dn K B x (e b) → a = b) : ∀ {xs : List V} {ds : List D} {ks : List (List Int)}, Paired (Dn K B) xs ds → keysM f ds = some ks →
    xs.map (keyC fun x ns => Dn K B x (e ns)) = ks ∧ ∀ x ∈ xs, ∃ d, f d = some (keyC (fun x ns => Dn K B x (e ns)) x) ∧ Dn K B x (e (keyC (fun x ns => Dn K B x (e ns)) x))
  | _, _, _, .nil, h => by
    cases h
    exact ⟨rfl, fun x hx => by cases hx⟩
  | x :: xs, d :: ds, ks, .cons a t, h => by
    unfold keysM at h
    cases hd : f d with
    | none => rw [hd] at h; cases h
    | some k =>
      rw [hd] at h
      cases hr : keysM f ds with
      | none => rw [hr] at h; cases h
      | some l =>
        rw [hr] at h
        cases h
        obtain ⟨h1, h2⟩ := keys_vals hf hR t hr
        have ed := hf d k hd
        subst ed
        have ek : keyC (fun x ns => Dn K B x (e ns)) x = k := keyC_eq hR a
        refine ⟨by rw [List.map_cons, h1, ek], fun y hy => ?_⟩
        rcases List.mem_cons.mp hy with rfl | hy
        · rw [ek]; exact ⟨_, hd, a⟩
        · exact h2 y hy
theorem dn_sorted {e : List Int → D} : ∀ {ys : List V}, (∀ y ∈ ys, Dn K B y (e (keyC (fun x ns => Dn K B x (e ns)) y))) → DnAll K B ys ((ys.map (keyC fun x ns => Dn K B x (e ns))).map e)
  | [], _ => .nil
  | y :: ys, h => .cons (h y List.mem_cons_self) (dn_sorted fun z hz => h z (List.mem_cons_of_mem _ hz))
end
section
variable {X : Cx} {e : Expr} {es : List Expr} {p pos : Pos} {G : Gd} {ow : List Nat} {fs : Env → Rs (List D)} {n : Nat}
theorem n_sortedM (hr : Room n X.A) (hm : X.mg "sorted" = none) (ha : L2.PA X (e :: es) (cA G ow 1 fs)) (hg : Gl X "sorted" := by rfl) (he : starEach (e :: es) X.env = (false, eval e X.env) :: starEach es X.env := by rfl) (hpl : (backTo pos (starEach es X.env)).any (·.1) = false := by rfl) (hK : X.K = G.K := by rfl) :
    L2.PE X (.Call (.Name "sorted" p) (e :: es) [] pos) (cN G ow fun γ => (fs γ).bind fun ds => oR (srtM ds)) :=
  (pe_callB (hK ▸ cr_srtL (by have := hr.un; omega)) hg hm (by decide +kernel) ha (by decide) (by decide) he hpl).impD fun σ H Q ⟨B, γ, I, q⟩ => ⟨B, γ, I, q.bind.imp fun ds q vs B1 H1 x1 hvs => by
    obtain ⟨z, ez, q⟩ := q.oR
    unfold srtM at ez
    split at ez
    · rename_i es'
      cases hvs with
      | cons h t =>
        cases t
        obtain ⟨p', us, rfl, h1, h2⟩ := DnF.items x1.s h
        have h2 : Paired (Dn G.K B1) us es' := h2
        cases hk : keysM keyLs es' with
        | some ks =>
          rw [hk] at ez
          cases ez
          obtain ⟨k1, k2⟩ := keys_vals (e := lsO) (fun d ns => keyLs_eq) (fun x a b => dn_ls_inj) h2 hk
          refine ⟨p', us, keyC fun x ns => Dn G.K B1 x (lsO ns), rfl, .inl h1, .inl fun x hx => ?_, fun ys r hp hs hr => ?_⟩
          · obtain ⟨d, _, hd⟩ := k2 x hx
            obtain ⟨t, xs, e1, r1, a1⟩ := DnF.items x1.s (k := 0) (show DnF G.K B1 H1 0 x (.list _) from hd)
            exact ⟨t, e1, by rw [← ints_of a1 (intsO_map' _)]; exact .inl r1⟩
          · have ky : ∀ y ∈ ys, Dn G.K B1 y (lsO (keyC (fun x ns => Dn G.K B1 x (lsO ns)) y)) := fun y hy => by
              obtain ⟨d, _, hd⟩ := k2 y (hp.mem_iff.mp hy)
              exact hd
            have e9 : ys.map (keyC fun x ns => Dn G.K B1 x (lsO ns)) = srtLs ks := by
              refine SL_uniq ?_ (List.pairwise_map.mpr hs) (srtLs_sl ks)
              rw [← k1]
              exact (hp.map _).trans (srtLs_perm _).symm
            have e8 := dn_sorted ky
            rw [e9] at e8
            exact q r _ B1 _ (x1.trans (.hid x1.s hr)) (x1.h.free hr) (same_none x1.s hr) upd_same e8
        | none =>
          rw [hk] at ez
          cases hk2 : keysM keyTs es' with
          | none => rw [hk2] at ez; cases ez
          | some ks =>
            rw [hk2] at ez
            cases ez
            obtain ⟨k1, k2⟩ := keys_vals (e := tpO) (fun d ns h => (keyTs_eq h).1) (fun x a b => dn_tp_inj) h2 hk2
            refine ⟨p', us, keyC fun x ns => Dn G.K B1 x (tpO ns), rfl, .inl h1, .inr fun x hx => ?_, fun ys r hp hs hr => ?_⟩
            · obtain ⟨d, hd0, hd⟩ := k2 x hx
              refine ⟨(keyTs_eq hd0).2, ?_⟩
              obtain ⟨t, xs, e1, r1, a1⟩ := DnF.tups x1.s (k := 0) (show DnF G.K B1 H1 0 x (.tuple _) from hd)
              exact ⟨t, e1, by rw [← a1.ints]; exact r1⟩
            · have ky : ∀ y ∈ ys, Dn G.K B1 y (tpO (keyC (fun x ns => Dn G.K B1 x (tpO ns)) y)) := fun y hy => by
                obtain ⟨d, _, hd⟩ := k2 y (hp.mem_iff.mp hy)
                exact hd
              have e9 : ys.map (keyC fun x ns => Dn G.K B1 x (tpO ns)) = srtLs ks := by
                refine SL_uniq ?_ (List.pairwise_map.mpr hs) (srtLs_sl ks)
                rw [← k1]
                exact (hp.map _).trans (srtLs_perm _).symm
              have e8 := dn_sorted ky
              rw [e9] at e8
              exact q r _ B1 _ (x1.trans (.hid x1.s hr)) (x1.h.free hr) (same_none x1.s hr) upd_same e8
    · cases ez⟩
end
/-! name = {k: v for ..} on one line, the name a local -/
section
open L2 (PE PG PTs PS)
variable {X : Cx}
theorem ps_setDc {i : Nat} {y : Str} {py : Pos} {kx vx tg iter : Expr} {ifs : List Expr} {scope : Scope} {own : List (Str × Nat)} {pos spos : Pos} {wi : TI} {g : TG} {tt : TT} {tk tv : TE} (hc : X.calm = true) (hN : X.N.Nodup) (hy : X.N[i]? = some y) (hyl : X.env.scope.names.lookup y = some .local)
    (hsw : swapsWith (.DictComp kx vx [⟨tg, iter, ifs, 0⟩] scope pos) (some (.Name y py)) spos.line X.env = pure true) (hi : PI X tg iter wi) (ok : BlkOk X.N X.env.scope scope own)
    (hg : ∀ (s : Shared) (H : Hp) (C : Addr) (cl : List (Str × Addr)) (fp : List Addr), PG (X.blk s H scope (compEnvC scope cl C X.env) fp) tg g) (ht : ∀ (s : Shared) (H : Hp) (C : Addr) (cl : List (Str × Addr)) (fp : List Addr), PTs (X.blk s H scope (compEnvC scope cl C X.env) fp) ifs tt)
    (hk : ∀ (s : Shared) (H : Hp) (C : Addr) (cl : List (Str × Addr)) (fp : List Addr), PE (X.blk s H scope (compEnvC scope cl C X.env) fp) kx tk)
    (he : ∀ (s : Shared) (H : Hp) (C : Addr) (cl : List (Str × Addr)) (fp : List Addr), PE (X.blk s H scope (compEnvC scope cl C X.env) fp) vx tv) (hs : ∀ x, foldedSetIterable iter X.env x = pure x := by intro _; rfl) :
    PS X (.Assign [.Name y py] (.DictComp kx vx [⟨tg, iter, ifs, 0⟩] scope pos) spos) (tAsg (tDc wi g tt tk tv (own.map (·.2))) (gName i)) := by
  refine ⟨fun pins s σ H D I h => ?_⟩
  rw [exec_Assign_Name_used _ _ _ _ hsw]
  refine wpAny_bind (wpAny_standAt (wpAny_bind ?_))
  show wpAny _ X.A (do let _ ← comprehension (.DictComp kx vx [⟨tg, iter, ifs, 0⟩] scope pos) scope X.env (firstIterPos [⟨tg, iter, ifs, 0⟩] pos) newDict false (eval iter X.env) (some (assign (.Name y py) X.env))) _ _ s
  have h : tDc wi g tt tk tv (own.map (·.2)) σ H (fun x H1 => gName i x σ H1 D.nx) := h
  refine wpAny_bind (thn (dc_core (Qf := fun _ s' => SP X pins D .next s') hc hN I hi ok hg ht hk he hs h fun L C s' m H' I' q hn f => ?_) fun _ s' hq => wpAny_pure (wpAny_pure hq))
  show wpAny _ _ (assign (.Name y py) X.env (.ref L)) _ _ _
  refine wpAny_assign_Name (store_ok2 (v := V.ref L) I' hN hy (.inl hyl) rfl (fun s2 I2 ⟨a, sb, ha⟩ => ?_) (.inr hyl))
  obtain ⟨f0, f1, f2, f3, f4, f5⟩ := f
  have haC : C ≠ a := by
    rcases ha with z | z
    · rw [z]; exact f1
    · exact fun e => f4 y a z e.symm
  refine ⟨m, hn.sameBut sb haC, fun h3 sb3 => ?_⟩
  exact ⟨_, H', I2.turned (t' := s2.toks) (fun b o hb e => (sb3.2 b hb).trans e) f0 f1 f3 f4 f5, q⟩
theorem sw_trueD {kx vx : Expr} {gs : List Comprehension} {scope : Scope} {pos py : Pos} {y : Str} {l : Nat} {env : PySem.Env} (hk : env.scope.kind = .function) (hy : env.scope.names.lookup y = some .local) (hl : (py.line == pos.line) = true)
    (ha : (scope.names.any fun (n, k) => n == y && (k == .local || k == .cell)) = false) : swapsWith (.DictComp kx vx gs scope pos) (some (.Name y py)) l env = pure true := by
  have ky : env.kindOf y = some .local := hy
  have hb : env.blockKind = .function := by unfold Env.blockKind; rw [hk]; rfl
  unfold swapsWith
  simp only [hb, ky, ha, Expr.pos, hl]
  rfl
end
/-! x = {k: v for ..}, an own dict -/
@[simp] abbrev sSetDc (i : Nat) (vs : List Nat) (fi : Env → Rs (List D)) (t : D → Env → Option Env) (c : Env → Rs Bool) (fk fv : Env → Rs D) : Env → Out := fun γ => liftS ((fi γ).bind fun ds => compDR vs t c fk fv ds γ) γ fun d => .nx (γ.set i (some d))
section
open L2 (PE PG PTs)
variable {X : Cx} {kx vx tg iter : Expr} {ifs : List Expr} {pos : Pos} {G : Gd} {ow owL : List Nat} {scope : Scope} {own : List (Str × Nat)} {t : D → Env → Option Env} {c : Env → Rs Bool} {fk fv : Env → Rs D} {fi : Env → Rs (List D)}
theorem s_setDc {ow' : List Nat} {x : Str} {p' p1 : Pos} (sl : Nat) (own : List (Str × Nat)) (hN : X.N.Nodup) (hi : PI X tg iter (cI G ow fi)) (ok : BlkOk X.N X.env.scope scope own)
    (hg : ∀ (s : Shared) (H : Hp) (C : Addr) (cl : List (Str × Addr)) (fp : List Addr), PG (X.blk s H scope (compEnvC scope cl C X.env) fp) tg (cG G.mute ow (own.map (·.2)) t)) (ht : ∀ (s : Shared) (H : Hp) (C : Addr) (cl : List (Str × Addr)) (fp : List Addr), PTs (X.blk s H scope (compEnvC scope cl C X.env) fp) ifs (cT G.mute ow c))
    (hk : ∀ (s : Shared) (H : Hp) (C : Addr) (cl : List (Str × Addr)) (fp : List Addr), PE (X.blk s H scope (compEnvC scope cl C X.env) fp) kx (cV G.mute ow 0 fk))
    (he : ∀ (s : Shared) (H : Hp) (C : Addr) (cl : List (Str × Addr)) (fp : List Addr), PE (X.blk s H scope (compEnvC scope cl C X.env) fp) vx (cV G.mute ow 0 fv)) (hw : ow.set sl 3 = ow' := by rfl) (hlti : sl < ow.length := by decide) (hi2 : X.N[sl]? = some x := by rfl) (hxl : X.env.scope.names.lookup x = some .local := by rfl) (hc : X.calm = true := by rfl) (hx : G.x = none := by rfl) (hs : ∀ x, foldedSetIterable iter X.env x = pure x := by intro _; rfl)
    (hsw : swapsWith (.DictComp kx vx [⟨tg, iter, ifs, 0⟩] scope pos) (some (.Name x p')) p1.line X.env = pure true := by exact sw_trueD rfl rfl rfl (by decide +kernel)) :
    PS X (.Assign [.Name x p'] (.DictComp kx vx [⟨tg, iter, ifs, 0⟩] scope pos) p1) (cS G ow ow' owL (sSetDc sl (own.map (·.2)) fi t c fk fv)) :=
  (ps_setDc hc hN hi2 hxl hsw hi ok hg ht hk he hs).impD fun Jn σ H ⟨B, γ, I, q⟩ => by
  refine ⟨B, γ, I, (OutP.lift I q).bind.imp fun ds q J B1 H1 x1 jw => fun Da hDa => ?_⟩
  unfold compDR at q
  cases hr : compDA t c fk fv ds (wipeE γ (own.map (·.2))) [] with
  | er _ _ => rw [hr] at q; exact q.elim
  | no => rw [hr] at q; exact q.elim
  | ok zs =>
    rw [hr] at q
    have q9 := q
    refine ⟨fun i m H' => i ≤ ds.length ∧ m = ds.length - i ∧ ∃ (B' : Hp) (kvs : List (Key × V)) (acc : List (Key × D)), Ext B1 H1 B' H' ∧ B' Da = none ∧ H' Da = some (.dK kvs) ∧ KvR G.K B' kvs acc ∧ compDA t c fk fv (ds.drop i) (wipeE γ (own.map (·.2))) acc = .ok zs,
      ⟨ds.length, Nat.zero_le _, by omega, B1, [], [], .hid x1.s hDa, same_none x1.s hDa, upd_same, .nil, hr⟩, fun i m H' hW => ?_⟩
    obtain ⟨hi, rfl, B', kvs, acc, xx, hb, hl', hd, hc⟩ := hW
    obtain ⟨j1, j2⟩ := jw B' H' xx.b xx.s i
    by_cases hlt : i < ds.length
    · obtain ⟨jg, jy⟩ := j1 _ (List.getElem?_eq_getElem hlt)
      refine .inr ⟨jg, fun H2 => ∃ (B2 : Hp) (kvs : List (Key × V)) (acc : List (Key × D)), Ext B1 H1 B2 H2 ∧ B2 Da = none ∧ H2 Da = some (.dK kvs) ∧ KvR G.K B2 kvs acc ∧ compDA t c fk fv (ds.drop (i + 1)) (wipeE γ (own.map (·.2))) acc = .ok zs, fun H2 hN => ⟨ds.length - (i + 1), by omega, by omega, rfl, hN⟩, fun x H2 hy => ?_⟩
      obtain ⟨B2, x2, hx2⟩ := jy x H2 hy
      rw [List.drop_eq_getElem_cons hlt] at hc
      obtain ⟨γ1, ht, b, hcb, hrest⟩ := compDA_cons hc
      have keepD : ∀ {B3 H3 : Hp}, Ext B' H' B3 H3 → B3 Da = none ∧ H3 Da = some (.dK kvs) := fun y => ⟨y.n Da hb ⟨_, hl', fun _ z => nomatch z⟩, y.h _ _ hl'⟩
      refine ⟨B2, wipeE γ (own.map (·.2)), ds[i], γ1, ((I.mono (x1.trans (xx.trans x2))).mute).wipe hx (own.map (·.2)), hx2, ht, fun σ3 hw3 I3 => ⟨hw3.trans (wipe_wipe _ _), B2, γ1, I3, ?_⟩⟩
      rw [hcb]
      intro B3 H3 x3
      rcases hrest with ⟨rfl, kd, z, k, hk1, hv1, hko, hlim, hy2⟩ | ⟨rfl, hy2⟩
      · rw [if_pos rfl]
        refine ⟨B3, γ1, I3.mono x3, ?_⟩
        rw [hk1]
        intro y B4 H4 x4 hy
        refine ⟨B4, γ1, I3.mono (x3.trans x4), ?_⟩
        rw [hv1]
        intro v B5 H5 x5 hv
        have y5 := ((x2.trans x3).trans x4).trans x5
        obtain ⟨k1, k2⟩ := keepD y5
        exact ⟨kvs, k, keyO_kV hko hy, k2, by rw [paired_len hd]; exact lim_lt hlim, B5, _, _, (xx.trans y5).wrh hDa k1, k1, upd_same, (hd.mono y5.b).put hv, hy2⟩
      · rw [if_neg (by decide)]
        obtain ⟨k1, k2⟩ := keepD (x2.trans x3)
        exact ⟨B3, kvs, acc, xx.trans (x2.trans x3), k1, k2, hd.mono (x2.trans x3).b, hy2⟩
    · refine .inl ⟨j2 (by omega), ?_⟩
      rw [List.drop_eq_nil_of_le (by omega)] at hc
      cases hc
      refine q9 B' _ H' (x1.trans xx).b ?_
      rw [← hw]
      exact I.setO sl hx hlti (x1.trans xx) (x1.h.free hDa) hb ⟨_, hl', fun _ z => nomatch z⟩ ⟨Da, _, _, rfl, rfl, rfl, hl', KvR.dn hd⟩
end
/-! list(d): the keys of a kept dict -/
theorem show_all {B H : Hp} (s : Same B H) : ∀ {kvs : List (List Key × V)} {bs : List Addr}, IsKeys H kvs bs → ∃ B2, Ext B H B2 H ∧ IsKeys B2 kvs bs := by
  intro kvs bs h
  unfold IsKeys at h
  induction h with
  | nil => exact ⟨B, .refl s, .nil⟩
  | @cons p b ps bs a t ih =>
    obtain ⟨B1, x1, k1⟩ := ih
    obtain ⟨B2, x2, k2⟩ := Ext.show x1.s a
    exact ⟨B2, x1.trans x2, .cons k2 (Paired.mapP k1 fun _ _ z => x2.b _ _ z)⟩
theorem dn_keysT {K : PySem.W.Frag} {B B2 : Hp} : ∀ {kvs : List (List Key × V)} {es : List (D × D)} {bs : List Addr}, DnKt K B kvs es → IsKeys B2 kvs bs → DnAll K B2 (bs.map V.ref) (es.map (·.1))
  | _, _, _, .nil, h => by cases h; exact .nil
  | _, _, _, .cons (k := k) a t, h => by
    cases h with
    | cons b c => exact .cons (.tup b (dn_kDs k)) (dn_keysT t c)
theorem dn_keysK {K : PySem.W.Frag} {B B2 : Hp} : ∀ {kvs : List (Key × V)} {es : List (D × D)}, DnKv K B kvs es → DnAll K B2 (kvs.map fun kv => kV kv.1) (es.map (·.1))
  | _, _, .nil => .nil
  | _, _, .cons (k := k) a t => .cons (dn_kD k) (dn_keysK t)
def lstKD : List D → Option (List D)
  | [.dict es] => if (es3 es).isSome = true ∨ (es4 es).isSome = true then some (es.map (·.1)) else none
  | _ => none
section
variable {X : Cx} {e : Expr} {es : List Expr} {p pos : Pos} {G : Gd} {ow : List Nat} {fs : Env → Rs (List D)}
theorem n_listKD (hm : X.mg "list" = none) (ha : L2.PA X (e :: es) (cA G ow 1 fs)) (hg : Gl X "list" := by rfl) (he : starEach (e :: es) X.env = (false, eval e X.env) :: starEach es X.env := by rfl) (hpl : (backTo pos (starEach es X.env)).any (·.1) = false := by rfl) (hc : X.calm = true := by rfl) (hK : X.K = G.K := by rfl) :
    L2.PE X (.Call (.Name "list" p) (e :: es) [] pos) (cN G ow fun γ => (fs γ).bind fun ds => oR (lstKD ds)) :=
  (pe_callTy (CallR.or (call_listD hc) (call_list_dT hc)) hg hm (by decide +kernel) ha (by decide) (by decide) he hpl).impD fun σ H Q ⟨B, γ, I, q⟩ => ⟨B, γ, I, q.bind.imp fun ds q vs B1 H1 x1 hvs => by
    obtain ⟨z, ez, q⟩ := q.oR
    unfold lstKD at ez
    split at ez
    · rename_i es'
      split at ez
      · rename_i hkk
        cases ez
        cases hvs with
        | @cons v0 _ _ _ h t =>
          cases t
          have hd : Dn G.K B1 v0 (.dict es') := by
            rcases h with h | ⟨_, _, _, _, z, _⟩
            · exact h
            · cases z
          cases hd with
          | @dic a kvs _ r b => exact .inl ⟨a, kvs, rfl, .inl (x1.s _ _ r), fun p hp => q p _ B1 _ (x1.trans (.hid x1.s hp)) (x1.h.free hp) (same_none x1.s hp) upd_same (dn_keysK b)⟩
          | @dct a kvs _ r b =>
            refine .inr ⟨a, kvs, rfl, .inl (x1.s _ _ r), fun p bs hp hk => ?_⟩
            obtain ⟨B2, x2, k2⟩ := show_all x1.s hk
            exact q p _ B2 _ ((x1.trans x2).trans (.hid x2.s hp)) (x1.h.free hp) (same_none x2.s hp) upd_same (dn_keysT b k2)
          | lkk => rcases hkk with z | z <;> cases z
          | lkt => rcases hkk with z | z <;> cases z
          | rng => rcases hkk with z | z <;> cases z
          | adr => rcases hkk with z | z <;> cases z
          | rol => rcases hkk with z | z <;> cases z
      · cases ez
    · cases ez⟩
end
end DL
set_option Elab.async false
set_option linter.all false
set_option maxRecDepth 100000
set_option maxHeartbeats 8000000

/-! What the defs of the text compute, on data (printed by gen.py). -/
namespace DL
open PySem PySem.Spec PyProof.Rows L2


/-- check_between(value, least, most): value, least, most -/
def g_check_between : Env → Out := ifS (tOr' (b1 (b2 (eV 0) (eV 1) ltD) boolO) (b1 (b2 (eV 0) (eV 2) gtD) boolO)) (sRa ("OutOfRange" : Str) [("value" : Str)] ("OutOfRange" : Str) (aC (eV 0) (aN))) (sNx)
def F_check_between : List D → Rs D := callS 3 g_check_between
/-- gcd_of(a, b): a, b -/
def g_gcd_of : Env → Out := seqS (sWh (b1 (b2 (eV 1) (eC (.int 0)) gtD) boolO) (sPar 0 1 (aC (eV 1) (aC (b2 (eV 0) (eV 1) modD) (aN))))) (sRet (eV 0))
def F_gcd_of : List D → Rs D := callS 2 g_gcd_of
/-- lcm_of(a, b): a, b -/
def g_lcm_of : Env → Out := sRet (b2 (b2 (eV 0) (eV 1) mulD) (cF 2 (aC (eV 0) (aC (eV 1) (aN))) F_gcd_of) fdivD)
def F_lcm_of : List D → Rs D := callS 2 g_lcm_of
/-- is_order(order): order -/
def g_is_order : Env → Out := sRet (b2 (eL (cB (aC (eV 0) (aN)) srtD)) (eL (b1 (cB (aC (eV 0) (aN)) lenD) rgL1)) eqD)
def F_is_order : List D → Rs D := callS 1 g_is_order
/-- check_order(order): order -/
def g_check_order : Env → Out := ifS (tNot' (b1 (cF 1 (aC (eV 0) (aN)) F_is_order) truD)) (sRa0 ("NotOrder" : Str) ("NotOrder" : Str)) (sNx)
def F_check_order : List D → Rs D := callS 1 g_check_order
/-- behind(cards, order): cards, order, place -/
def g_behind : Env → Out := sRet (eL (nLc [2] (b1 (eV 1) lstO) (tgN 2) (tsYes) (b2 (eV 0) (eV 2) ixD)))
def F_behind : List D → Rs D := callS 3 g_behind
/-- backward(order): order, found, place -/
def g_backward : Env → Out := seqS (sNew 1 (nRep (nL (aC (eC (.int 0)) (aN))) (cB (aC (eV 0) (aN)) lenD))) (seqS (sFor (cB (aC (cB (aC (eV 0) (aN)) lenD) (aN)) rg1) (tgN 2) (putS 1 (eV 2) (b2 (eV 0) (eV 2) ixD))) (sRet (eV 1)))
def F_backward : List D → Rs D := callS 3 g_backward
/-- cycles_of(order): order, goes, seen, found, place, cycle -/
def g_cycles_of : Env → Out := seqS (sSet 1 (cF 1 (aC (eV 0) (aN)) F_backward)) (seqS (sNew 2 (nRep (nL (aC (eC (.bool false)) (aN))) (cB (aC (eV 0) (aN)) lenD))) (seqS (sNew 3 (nL (aN))) (seqS (sFor (cB (aC (cB (aC (eV 0) (aN)) lenD) (aN)) rg1) (tgN 4) (seqS (sNew 5 (nL (aN))) (seqS (sWh (tNot' (b1 (b2 (eV 2) (eV 4) ixD) truD)) (seqS (putS 2 (eC (.bool true)) (eV 4)) (seqS (appS 5 (eV 4)) (sSet 4 (b2 (eV 1) (eV 4) ixD))))) (ifS (b1 (b2 (cB (aC (eV 5) (aN)) lenD) (eC (.int 0)) gtD) boolO) (appS 3 (eV 5)) (sNx))))) (sRet (eV 3)))))
def F_cycles_of : List D → Rs D := callS 6 g_cycles_of
/-- period_of(order): order, period, cycle -/
def g_period_of : Env → Out := seqS (sSet 1 (eC (.int 1))) (seqS (sFor (b1 (cF 1 (aC (eV 0) (aN)) F_cycles_of) lstO) (tgN 2) (sSet 1 (cF 2 (aC (eV 1) (aC (cB (aC (eV 2) (aN)) lenD) (aN))) F_lcm_of))) (sRet (eV 1)))
def F_period_of : List D → Rs D := callS 3 g_period_of
/-- _law_cell(script, k): script, k -/
def g__law_cell : Env → Out := seqS (ifS (b1 (b2 (eV 1) (cB (aC (eV 0) (aN)) lenD) ltD) boolO) (sRet (b2 (eV 0) (eV 1) ixD)) (sNx)) (sRet (eC (.int 0)))
def F__law_cell : List D → Rs D := callS 2 g__law_cell
/-- _law_draw(cell, limits): cell, limits, row, rest, great, k, mixed -/
def g__law_draw : Env → Out := seqS (sNew 2 (nL (aN))) (seqS (sSet 3 (cB (aC (eV 0) (aN)) absD)) (seqS (sSet 4 (b2 (eV 3) (eC (.int 1000000000000000000)) geD)) (seqS (sFor (cB (aC (cB (aC (eV 1) (aN)) lenD) (aN)) rg1) (tgN 5) (ifS (tAnd' (b1 (eV 4) truD) (b1 (b2 (eV 3) (b2 (eV 1) (eV 5) ixD) geD) boolO)) (seqS (appS 2 (b2 (cB (aC (eV 3) (aN)) intD) (b2 (eV 1) (eV 5) ixD) modD)) (sSet 3 (b2 (eV 3) (b2 (eV 1) (eV 5) ixD) fdivD))) (seqS (sSet 6 (b2 (cB (aC (b2 (b2 (cB (aC (eV 0) (aN)) absD) (eC (.int 48271)) mulD) (b2 (b2 (eV 5) (eC (.int 1)) addD) (eC (.int 69621)) mulD) addD) (aN)) intD) (eC (.int 2147483647)) modD)) (seqS (sSet 6 (b2 (cB (aC (b2 (b2 (eV 6) (eC (.int 16807)) mulD) (b2 (b2 (eV 5) (eC (.int 1)) addD) (eC (.int 40692)) mulD) addD) (aN)) intD) (eC (.int 2147483399)) modD)) (appS 2 (b2 (cB (aC (eV 6) (aN)) intD) (b2 (eV 1) (eV 5) ixD) modD)))))) (sRet (eV 2)))))
def F__law_draw : List D → Rs D := callS 7 g__law_draw
/-- _law_order(cell, most): cell, most, d, left, order, pick, k -/
def g__law_order : Env → Out := seqS (sSet 2 (cF 2 (aC (eV 0) (aC (eL (nL (aC (b2 (eV 1) (eC (.int 1)) addD) (aN)))) (aN))) F__law_draw)) (seqS (sNew 3 (nLc [6] (cB (aC (b2 (eV 2) (eC (.int 0)) ixD) (aN)) rg1) (tgN 6) (tsYes) (eV 6))) (seqS (sNew 4 (nL (aN))) (seqS (sFor (b1 (cF 2 (aC (b2 (b2 (eV 0) (eC (.int 5)) fdivD) (eC (.int 3)) addD) (aC (eL (nLc [6] (cB (aC (b2 (eV 2) (eC (.int 0)) ixD) (aN)) rg1) (tgN 6) (tsYes) (b2 (b2 (eV 2) (eC (.int 0)) ixD) (eV 6) subD))) (aN))) F__law_draw) lstO) (tgN 5) (seqS (appS 4 (b2 (eV 3) (eV 5) ixD)) (sSet 3 (b2 (eCut (eV 3) (oN) (oS (eV 5))) (eCut (eV 3) (oS (b2 (eV 5) (eC (.int 1)) addD)) (oN)) addD)))) (sRet (eV 4)))))
def F__law_order : List D → Rs D := callS 7 g__law_order
/-- _law_of_size(cell, size): cell, size, left, order, pick, k -/
def g__law_of_size : Env → Out := seqS (sNew 2 (nLc [5] (cB (aC (eV 1) (aN)) rg1) (tgN 5) (tsYes) (eV 5))) (seqS (sNew 3 (nL (aN))) (seqS (sFor (b1 (cF 2 (aC (eV 0) (aC (eL (nLc [5] (cB (aC (eV 1) (aN)) rg1) (tgN 5) (tsYes) (b2 (eV 1) (eV 5) subD))) (aN))) F__law_draw) lstO) (tgN 4) (seqS (appS 3 (b2 (eV 2) (eV 4) ixD)) (sSet 2 (b2 (eCut (eV 2) (oN) (oS (eV 4))) (eCut (eV 2) (oS (b2 (eV 4) (eC (.int 1)) addD)) (oN)) addD)))) (sRet (eV 3))))
def F__law_of_size : List D → Rs D := callS 6 g__law_of_size
/-- _law_then(first, second): first, second, k -/
def g__law_then : Env → Out := sRet (eL (nLc [2] (b1 (eV 1) lstO) (tgN 2) (tsYes) (b2 (eV 0) (eV 2) ixD)))
def F__law_then : List D → Rs D := callS 3 g__law_then
/-- _law_back(order): order, k -/
def g__law_back : Env → Out := sRet (eL (nLc [1] (cB (aC (cB (aC (eV 0) (aN)) lenD) (aN)) rg1) (tgN 1) (tsYes) (eIdx (eV 0) (aC (eV 1) (aN)))))
def F__law_back : List D → Rs D := callS 2 g__law_back
/-- _law_gcd(a, b): a, b, k, rest -/
def g__law_gcd : Env → Out := seqS (sFor (cB (aC (eC (.int 2000)) (aN)) rg1) (tgN 2) (seqS (ifS (b1 (b2 (eV 1) (eC (.int 0)) eqD) boolO) (sBk) (sNx)) (seqS (sSet 3 (b2 (cB (aC (eV 0) (aN)) intD) (eV 1) modD)) (seqS (sSet 0 (eV 1)) (sSet 1 (eV 3)))))) (sRet (eV 0))
def F__law_gcd : List D → Rs D := callS 4 g__law_gcd
/-- _law_cycles(order): order, after, seen, found, begin, cycle, at, turn -/
def g__law_cycles : Env → Out := seqS (sSet 1 (cF 1 (aC (eV 0) (aN)) F__law_back)) (seqS (sSet 2 (eL (nL (aN)))) (seqS (sNew 3 (nL (aN))) (seqS (sFor (cB (aC (cB (aC (eV 0) (aN)) lenD) (aN)) rg1) (tgN 4) (ifS (b1 (b2 (eV 4) (eV 2) (inD true)) boolO) (seqS (sNew 5 (nL (aN))) (seqS (sSet 6 (eV 4)) (seqS (sFor (cB (aC (cB (aC (eV 0) (aN)) lenD) (aN)) rg1) (tgN 7) (seqS (ifS (b1 (b2 (eV 6) (eV 5) (inD false)) boolO) (sBk) (sNx)) (seqS (appS 5 (eV 6)) (sSet 6 (b2 (eV 1) (eV 6) ixD))))) (seqS (sSet 2 (b2 (eV 2) (eV 5) addD)) (appS 3 (eV 5)))))) (sNx))) (sRet (eV 3)))))
def F__law_cycles : List D → Rs D := callS 8 g__law_cycles
/-- _law_period(order): order, least, cycle -/
def g__law_period : Env → Out := seqS (sSet 1 (eC (.int 1))) (seqS (sFor (b1 (cF 1 (aC (eV 0) (aN)) F__law_cycles) lstO) (tgN 2) (sSet 1 (b2 (b2 (eV 1) (cF 2 (aC (eV 1) (aC (cB (aC (eV 2) (aN)) lenD) (aN))) F__law_gcd) fdivD) (cB (aC (eV 2) (aN)) lenD) mulD))) (sRet (eV 1)))
def F__law_period : List D → Rs D := callS 3 g__law_period
/-- _law_many(order, n): order, n, here, turn, k -/
def g__law_many : Env → Out := seqS (sNew 2 (nLc [4] (cB (aC (cB (aC (eV 0) (aN)) lenD) (aN)) rg1) (tgN 4) (tsYes) (eV 4))) (seqS (sFor (cB (aC (b2 (cB (aC (eV 1) (aN)) intD) (cF 1 (aC (eV 0) (aN)) F__law_period) modD) (aN)) rg1) (tgN 3) (sSet 2 (cF 2 (aC (eV 2) (aC (eV 0) (aN))) F__law_then))) (sRet (eV 2)))
def F__law_many : List D → Rs D := callS 5 g__law_many
end DL
set_option Elab.async false
set_option linter.all false
set_option maxRecDepth 100000
set_option maxHeartbeats 8000000

/-! What the defs of the text compute, on data (printed by gen.py). -/
namespace DL
open PySem PySem.Spec PyProof.Rows L2


/-- rising_of(order): order, goes, found, card -/
def g_rising_of : Env → Out := seqS (sSet 1 (cF 1 (aC (eV 0) (aN)) F_backward)) (seqS (sNew 2 (nL (aN))) (seqS (sFor (cB (aC (cB (aC (eV 0) (aN)) lenD) (aN)) rg1) (tgN 3) (ifS (tAnd' (b1 (b2 (eV 3) (eC (.int 0)) gtD) boolO) (b1 (b2 (b2 (eV 1) (eV 3) ixD) (b2 (eV 1) (b2 (eV 3) (eC (.int 1)) subD) ixD) gtD) boolO)) (appInS 2 (b1 (eC (.int 1)) negD) (eV 3)) (appS 2 (eL (nL (aC (eV 3) (aN))))))) (sRet (eV 2))))
def F_rising_of : List D → Rs D := callS 4 g_rising_of
/-- factorial(n): n, product, number -/
def g_factorial : Env → Out := seqS (sSet 1 (eC (.int 1))) (seqS (sFor (cB (aC (eC (.int 2)) (aC (b2 (eV 0) (eC (.int 1)) addD) (aN))) rg2) (tgN 2) (sAug 1 (eV 2) mulD)) (sRet (eV 1)))
def F_factorial : List D → Rs D := callS 3 g_factorial
/-- order_at(cards, n): cards, n, digits, size, left, found, digit -/
def g_order_at : Env → Out := seqS (sNew 2 (nL (aN))) (seqS (sFor (cB (aC (eC (.int 1)) (aC (b2 (cB (aC (eV 0) (aN)) lenD) (eC (.int 1)) addD) (aN))) rg2) (tgN 3) (seqS (appS 2 (b2 (eV 1) (eV 3) modD)) (sSet 1 (b2 (eV 1) (eV 3) fdivWD)))) (seqS (sSet 4 (eL (cB (aC (eV 0) (aN)) lstD))) (seqS (sNew 5 (nL (aN))) (seqS (sFor (b1 (eL (b1 (eV 2) revLD)) lstO) (tgN 6) (seqS (appS 5 (b2 (eV 4) (eV 6) ixD)) (sSet 4 (b2 (eCut (eV 4) (oN) (oS (eV 6))) (eCut (eV 4) (oS (b2 (eV 6) (eC (.int 1)) addD)) (oN)) addD)))) (sRet (eV 5))))))
def F_order_at : List D → Rs D := callS 7 g_order_at
end DL
set_option Elab.async false
set_option linter.all false
set_option maxRecDepth 100000
set_option maxHeartbeats 8000000

/-! What the defs of the text compute, on data (printed by gen.py). -/
namespace DL
open PySem PySem.Spec PyProof.Rows L2


abbrev tab_LENGTHS : List (Str × D) := [("cut", .int 2), ("out", .int 1), ("in", .int 1), ("monge", .int 1), ("milk", .int 1), ("deal", .int 3), ("run", .int 2), ("over", .int 1), ("under", .int 3)]
/-- is_shuffle(shuffle): shuffle -/
def g_is_shuffle : Env → Out := seqS (ifS (tOr' (b1 (b2 (cB (aC (eV 0) (aN)) lenD) (eC (.int 0)) eqD) boolO) (tOr' (b1 (b1 (b2 (eV 0) (eC (.int 0)) ixD) (inW tab_LENGTHS true)) boolO) (b1 (b2 (cB (aC (eV 0) (aN)) lenD) (b1 (b2 (eV 0) (eC (.int 0)) ixD) (ixW tab_LENGTHS)) neD) boolO))) (sRet (eC (.bool false))) (sNx)) (seqS (ifS (b1 (b2 (b2 (eV 0) (eC (.int 0)) ixD) (eC (.str "deal")) eqD) boolO) (sRet (eAnd (eCh leD leD (eC (.int 1)) (b2 (eV 0) (eC (.int 1)) ixD) (eC (.int 100))) (b2 (eL (cB (aC (b2 (eV 0) (eC (.int 2)) ixD) (aN)) srtD)) (eL (b1 (b2 (eV 0) (eC (.int 1)) ixD) rgL1)) eqD))) (sNx)) (seqS (ifS (b1 (b2 (b2 (eV 0) (eC (.int 0)) ixD) (eC (.str "run")) eqD) boolO) (sRet (b2 (b2 (eV 0) (eC (.int 1)) ixD) (eC (.int 0)) geD)) (sNx)) (seqS (ifS (b1 (b2 (b2 (eV 0) (eC (.int 0)) ixD) (eC (.str "under")) eqD) boolO) (sRet (eAnd (eCh leD leD (eC (.int 1)) (b2 (eV 0) (eC (.int 1)) ixD) (eC (.int 100))) (eCh leD leD (eC (.int 0)) (b2 (eV 0) (eC (.int 2)) ixD) (eC (.int 100))))) (sNx)) (sRet (eC (.bool true))))))
def F_is_shuffle : List D → Rs D := callS 1 g_is_shuffle
/-- check_shuffle(shuffle): shuffle -/
def g_check_shuffle : Env → Out := ifS (tNot' (b1 (cF 1 (aC (eV 0) (aN)) F_is_shuffle) truD)) (sRa0 ("BadShuffle" : Str) ("BadShuffle" : Str)) (sNx)
def F_check_shuffle : List D → Rs D := callS 1 g_check_shuffle
/-- check_sized(shuffle, n, least, most): shuffle, n, least, most -/
def g_check_sized : Env → Out := seqS (sEx (cF 1 (aC (eV 0) (aN)) F_check_shuffle)) (seqS (sEx (cF 3 (aC (eV 1) (aC (eV 2) (aC (eV 3) (aN)))) F_check_between)) (ifS (tAnd' (b1 (b2 (b2 (eV 0) (eC (.int 0)) ixD) (eC (.str "run")) eqD) boolO) (b1 (b2 (b2 (eV 0) (eC (.int 1)) ixD) (eV 1) gtD) boolO)) (sRa ("OutOfRange" : Str) [("value" : Str)] ("OutOfRange" : Str) (aC (b2 (eV 0) (eC (.int 1)) ixD) (aN))) (sNx)))
def F_check_sized : List D → Rs D := callS 4 g_check_sized
/-- faro_order(word, n): word, n, upper, first, second, place -/
def g_faro_order : Env → Out := seqS (sSet 2 (eIf (b1 (b2 (eV 0) (eC (.str "out")) eqD) boolO) (b2 (b2 (eV 1) (eC (.int 1)) addD) (eC (.int 2)) fdivWD) (b2 (eV 1) (eC (.int 2)) fdivWD))) (seqS (sUnp (tgT 2 (tgCons (tgN 3) (tgCons (tgN 4) (tgNil)))) (eIf (b1 (b2 (eV 0) (eC (.str "out")) eqD) boolO) (eT (aC (eC (.int 0)) (aC (eV 2) (aN)))) (eT (aC (eV 2) (aC (eC (.int 0)) (aN)))))) (sRet (eL (nLc [5] (cB (aC (eV 1) (aN)) rg1) (tgN 5) (tsYes) (b2 (eIf (b1 (b2 (b2 (eV 5) (eC (.int 2)) modD) (eC (.int 0)) eqD) boolO) (eV 3) (eV 4)) (b2 (eV 5) (eC (.int 2)) fdivWD) addD)))))
def F_faro_order : List D → Rs D := callS 6 g_faro_order
/-- monge_order(n): n, odd, card -/
def g_monge_order : Env → Out := seqS (sNew 1 (nLc [2] (cB (aC (eC (.int 1)) (aC (eV 0) (aC (eC (.int 2)) (aN)))) rg3) (tgN 2) (tsYes) (eV 2))) (sRet (b2 (eL (b1 (eV 1) revLD)) (eL (nLc [2] (cB (aC (eC (.int 0)) (aC (eV 0) (aC (eC (.int 2)) (aN)))) rg3) (tgN 2) (tsYes) (eV 2))) addD))
def F_monge_order : List D → Rs D := callS 3 g_monge_order
/-- milk_order(n): n, found, card -/
def g_milk_order : Env → Out := seqS (sNew 1 (eIf (b1 (b2 (b2 (eV 0) (eC (.int 2)) modD) (eC (.int 1)) eqD) boolO) (nL (aC (b2 (eV 0) (eC (.int 2)) fdivWD) (aN))) (nL (aN)))) (seqS (sFor (cB (aC (b2 (b2 (eV 0) (eC (.int 2)) fdivWD) (eC (.int 1)) subD) (aC (b1 (eC (.int 1)) negD) (aC (b1 (eC (.int 1)) negD) (aN)))) rg3) (tgN 2) (extS 1 (nL (aC (eV 2) (aC (b2 (b2 (eV 0) (eC (.int 1)) subD) (eV 2) subD) (aN)))))) (sRet (eV 1)))
def F_milk_order : List D → Rs D := callS 3 g_milk_order
/-- deal_order(n, k, stack): n, k, stack, found, pile -/
def g_deal_order : Env → Out := seqS (sNew 3 (nL (aN))) (seqS (sFor (b1 (eV 2) lstO) (tgN 4) (extS 3 (b1 (eL (cB (aC (eV 4) (aC (eV 0) (aC (eV 1) (aN)))) (fun ds => (rg3 ds).bind szL))) revLD))) (sRet (eV 3)))
def F_deal_order : List D → Rs D := callS 5 g_deal_order
/-- dealt_places(n, d, u): n, d, u, queue, head, found, left, gone -/
def g_dealt_places : Env → Out := seqS (sNew 3 (b1 (eV 0) rgL1)) (seqS (sSet 4 (eC (.int 0))) (seqS (sNew 5 (nL (aN))) (seqS (sWh (b1 (b2 (eV 4) (cB (aC (eV 3) (aN)) lenD) ltD) boolO) (seqS (extS 5 (nCut (eV 3) (oS (eV 4)) (oS (b2 (eV 4) (eV 1) addD)))) (seqS (sSet 4 (cB (aC (b2 (eV 4) (eV 1) addD) (aC (cB (aC (eV 3) (aN)) lenD) (aN))) minD)) (seqS (sSet 6 (b2 (cB (aC (eV 3) (aN)) lenD) (eV 4) subD)) (seqS (ifS (b1 (b2 (eV 6) (eC (.int 0)) gtD) boolO) (seqS (sSet 7 (b2 (eV 2) (eV 6) modD)) (seqS (extS 3 (nCut (eV 3) (oS (eV 4)) (oS (b2 (eV 4) (eV 7) addD)))) (sAug 4 (eV 7) addA))) (sNx)) (ifS (b1 (b2 (eV 4) (eC (.int 100000)) gtD) boolO) (seqS (sNew 3 (nCut (eV 3) (oS (eV 4)) (oN))) (sSet 4 (eC (.int 0)))) (sNx))))))) (sRet (eV 5)))))
def F_dealt_places : List D → Rs D := callS 8 g_dealt_places
/-- order_by(shuffle, n): shuffle, n, word, k -/
def g_order_by : Env → Out := seqS (sSet 2 (b2 (eV 0) (eC (.int 0)) ixD)) (seqS (ifS (b1 (b2 (eV 2) (eC (.str "cut")) eqD) boolO) (seqS (sSet 3 (eIf (b1 (b2 (eV 1) (eC (.int 0)) gtD) boolO) (b2 (b2 (eV 0) (eC (.int 1)) ixD) (eV 1) modD) (eC (.int 0)))) (sRet (b2 (eL (b2 (eV 3) (eV 1) rgL2)) (eL (b1 (eV 3) rgL1)) addD))) (sNx)) (seqS (ifS (b1 (b2 (eV 2) (eT (aC (eC (.str "out")) (aC (eC (.str "in")) (aN)))) (inD false)) boolO) (sRet (cF 2 (aC (eV 2) (aC (eV 1) (aN))) F_faro_order)) (sNx)) (seqS (ifS (b1 (b2 (eV 2) (eC (.str "monge")) eqD) boolO) (sRet (cF 1 (aC (eV 1) (aN)) F_monge_order)) (sNx)) (seqS (ifS (b1 (b2 (eV 2) (eC (.str "milk")) eqD) boolO) (sRet (cF 1 (aC (eV 1) (aN)) F_milk_order)) (sNx)) (seqS (ifS (b1 (b2 (eV 2) (eC (.str "deal")) eqD) boolO) (sRet (cF 3 (aC (eV 1) (aC (b2 (eV 0) (eC (.int 1)) ixD) (aC (b2 (eV 0) (eC (.int 2)) ixD) (aN)))) F_deal_order)) (sNx)) (seqS (ifS (b1 (b2 (eV 2) (eC (.str "run")) eqD) boolO) (sRet (b2 (eL (b2 (b2 (eV 0) (eC (.int 1)) ixD) (eV 1) rgL2)) (eL (b1 (eL (b1 (b2 (eV 0) (eC (.int 1)) ixD) rgL1)) revLD)) addD)) (sNx)) (seqS (ifS (b1 (b2 (eV 2) (eC (.str "under")) eqD) boolO) (sRet (eL (b1 (cF 3 (aC (eV 1) (aC (b2 (eV 0) (eC (.int 1)) ixD) (aC (b2 (eV 0) (eC (.int 2)) ixD) (aN)))) F_dealt_places) revLD))) (sNx)) (sRet (eL (b1 (eL (b1 (eV 1) rgL1)) revLD))))))))))
def F_order_by : List D → Rs D := callS 4 g_order_by
/-- _law_run(cards, k): cards, k, top, j -/
def g__law_run : Env → Out := seqS (sNew 2 (nLc [3] (cB (aC (eV 1) (aN)) rg1) (tgN 3) (tsYes) (b2 (eV 0) (b2 (b2 (eV 1) (eC (.int 1)) subD) (eV 3) subD) ixD))) (sRet (b2 (eCut (eV 0) (oS (eV 1)) (oN)) (eV 2) addD))
def F__law_run : List D → Rs D := callS 4 g__law_run
/-- _law_faro(cards, word): cards, word, n, upper, lower, first, second, made, k -/
def g__law_faro : Env → Out := seqS (sSet 2 (cB (aC (eV 0) (aN)) lenD)) (seqS (sSet 3 (eCut (eV 0) (oN) (oS (b2 (b2 (eV 2) (cB (aC (b2 (eV 1) (eC (.str "out")) eqD) (aN)) intD) addD) (eC (.int 2)) fdivWD)))) (seqS (sSet 4 (eCut (eV 0) (oS (cB (aC (eV 3) (aN)) lenD)) (oN))) (seqS (sSet 5 (eV 3)) (seqS (sSet 6 (eV 4)) (seqS (ifS (b1 (b2 (eV 1) (eC (.str "in")) eqD) boolO) (seqS (sSet 5 (eV 4)) (sSet 6 (eV 3))) (sNx)) (seqS (sNew 7 (nL (aN))) (seqS (sFor (cB (aC (cB (aC (eV 5) (aN)) lenD) (aN)) rg1) (tgN 8) (seqS (appS 7 (b2 (eV 5) (eV 8) ixD)) (ifS (b1 (b2 (eV 8) (cB (aC (eV 6) (aN)) lenD) ltD) boolO) (appS 7 (b2 (eV 6) (eV 8) ixD)) (sNx)))) (sRet (eV 7)))))))))
def F__law_faro : List D → Rs D := callS 9 g__law_faro
/-- _law_under(cards, d, u): cards, d, u, made, left, turn, dealt, card, k -/
def g__law_under : Env → Out := seqS (sSet 3 (eL (nL (aN)))) (seqS (sSet 4 (eL (cB (aC (eV 0) (aN)) lstD))) (seqS (sFor (cB (aC (b2 (cB (aC (eV 0) (aN)) lenD) (eC (.int 1)) addD) (aN)) rg1) (tgN 5) (seqS (sSet 6 (eCut (eV 4) (oN) (oS (eV 1)))) (seqS (sSet 4 (eCut (eV 4) (oS (eV 1)) (oN))) (seqS (sFor (b1 (eV 6) lstO) (tgN 7) (sSet 3 (b2 (eL (nL (aC (eV 7) (aN)))) (eV 3) addD))) (seqS (ifS (b1 (b2 (cB (aC (eV 4) (aN)) lenD) (eC (.int 0)) eqD) boolO) (sBk) (sNx)) (seqS (sSet 8 (b2 (cB (aC (eV 2) (aN)) intD) (cB (aC (eV 4) (aN)) lenD) modD)) (sSet 4 (b2 (eCut (eV 4) (oS (eV 8)) (oN)) (eCut (eV 4) (oN) (oS (eV 8))) addD)))))))) (sRet (eV 3))))
def F__law_under : List D → Rs D := callS 9 g__law_under
/-- _law_shuffled(cards, shuffle): cards, shuffle, n, word, k, made, left, turn, piles, pile, at -/
def g__law_shuffled : Env → Out := seqS (sSet 2 (cB (aC (eV 0) (aN)) lenD)) (seqS (sSet 3 (b2 (eV 1) (eC (.int 0)) ixD)) (seqS (ifS (b1 (b2 (eV 3) (eC (.str "cut")) eqD) boolO) (seqS (sSet 4 (eC (.int 0))) (seqS (ifS (b1 (b2 (eV 2) (eC (.int 0)) gtD) boolO) (sSet 4 (b2 (cB (aC (b2 (eV 1) (eC (.int 1)) ixD) (aN)) intD) (eV 2) modD)) (sNx)) (sRet (b2 (eCut (eV 0) (oS (eV 4)) (oN)) (eCut (eV 0) (oN) (oS (eV 4))) addD)))) (sNx)) (seqS (ifS (b1 (b2 (eV 3) (eC (.str "over")) eqD) boolO) (sRet (eL (nLc [4] (cB (aC (eV 2) (aN)) rg1) (tgN 4) (tsYes) (b2 (eV 0) (b2 (b2 (eV 2) (eC (.int 1)) subD) (eV 4) subD) ixD)))) (sNx)) (seqS (ifS (b1 (b2 (eV 3) (eC (.str "run")) eqD) boolO) (sRet (cF 2 (aC (eV 0) (aC (b2 (eV 1) (eC (.int 1)) ixD) (aN))) F__law_run)) (sNx)) (seqS (ifS (b1 (b2 (eV 3) (eL (nL (aC (eC (.str "out")) (aC (eC (.str "in")) (aN))))) (inD false)) boolO) (sRet (cF 2 (aC (eV 0) (aC (eV 3) (aN))) F__law_faro)) (sNx)) (seqS (ifS (b1 (b2 (eV 3) (eC (.str "monge")) eqD) boolO) (seqS (sSet 5 (eL (nL (aN)))) (seqS (sFor (cB (aC (eV 2) (aN)) rg1) (tgN 4) (ifS (b1 (b2 (b2 (cB (aC (eV 4) (aN)) intD) (eC (.int 2)) modD) (eC (.int 1)) eqD) boolO) (sSet 5 (b2 (eL (nL (aC (b2 (eV 0) (eV 4) ixD) (aN)))) (eV 5) addD)) (sSet 5 (b2 (eV 5) (eL (nL (aC (b2 (eV 0) (eV 4) ixD) (aN)))) addD)))) (sRet (eV 5)))) (sNx)) (seqS (ifS (b1 (b2 (eV 3) (eC (.str "milk")) eqD) boolO) (seqS (sSet 5 (eL (nL (aN)))) (seqS (sSet 6 (eL (cB (aC (eV 0) (aN)) lstD))) (seqS (sFor (cB (aC (eV 2) (aN)) rg1) (tgN 7) (ifS (b1 (b2 (cB (aC (eV 6) (aN)) lenD) (eC (.int 1)) gtD) boolO) (seqS (sSet 5 (b2 (eL (nL (aC (b2 (eV 6) (eC (.int 0)) ixD) (aC (b2 (eV 6) (b2 (cB (aC (eV 6) (aN)) lenD) (eC (.int 1)) subD) ixD) (aN))))) (eV 5) addD)) (sSet 6 (eCut (eV 6) (oS (eC (.int 1))) (oS (b2 (cB (aC (eV 6) (aN)) lenD) (eC (.int 1)) subD))))) (sNx))) (sRet (b2 (eV 6) (eV 5) addD))))) (sNx)) (seqS (ifS (b1 (b2 (eV 3) (eC (.str "deal")) eqD) boolO) (seqS (sNew 8 (nLc [4] (cB (aC (b2 (eV 1) (eC (.int 1)) ixD) (aN)) rg1) (tgN 4) (tsYes) (eL (nL (aN))))) (seqS (sFor (cB (aC (eV 2) (aN)) rg1) (tgN 4) (seqS (sSet 10 (b2 (cB (aC (eV 4) (aN)) intD) (b2 (eV 1) (eC (.int 1)) ixD) modD)) (putS 8 (b2 (eL (nL (aC (b2 (eV 0) (eV 4) ixD) (aN)))) (b2 (eV 8) (eV 10) ixD) addD) (eV 10)))) (seqS (sSet 5 (eL (nL (aN)))) (seqS (sFor (b1 (b2 (eV 1) (eC (.int 2)) ixD) lstO) (tgN 9) (sSet 5 (b2 (eV 5) (b2 (eV 8) (eV 9) ixD) addD))) (sRet (eV 5)))))) (sNx)) (sRet (cF 3 (aC (eV 0) (aC (b2 (eV 1) (eC (.int 1)) ixD) (aC (b2 (eV 1) (eC (.int 2)) ixD) (aN)))) F__law_under))))))))))
def F__law_shuffled : List D → Rs D := callS 11 g__law_shuffled
/-- _law_some_shuffle(cell, n): cell, n, d, words, word -/
def g__law_some_shuffle : Env → Out := seqS (sSet 2 (cF 2 (aC (eV 0) (aC (eL (nL (aC (eC (.int 9)) (aC (b2 (b2 (eC (.int 2)) (eV 1) mulD) (eC (.int 3)) addD) (aC (eC (.int 5)) (aC (b2 (eV 1) (eC (.int 1)) addD) (aC (eC (.int 4)) (aC (eC (.int 4)) (aN))))))))) (aN))) F__law_draw)) (seqS (sSet 3 (eL (nL (aC (eC (.str "cut")) (aC (eC (.str "out")) (aC (eC (.str "in")) (aC (eC (.str "monge")) (aC (eC (.str "milk")) (aC (eC (.str "deal")) (aC (eC (.str "run")) (aC (eC (.str "over")) (aC (eC (.str "under")) (aN))))))))))))) (seqS (sSet 4 (b2 (eV 3) (b2 (eV 2) (eC (.int 0)) ixD) ixD)) (seqS (ifS (b1 (b2 (eV 4) (eC (.str "cut")) eqD) boolO) (sRet (eT (aC (eC (.str "cut")) (aC (b2 (b2 (b2 (eV 2) (eC (.int 1)) ixD) (eV 1) subD) (eC (.int 1)) subD) (aN))))) (sNx)) (seqS (ifS (b1 (b2 (eV 4) (eC (.str "deal")) eqD) boolO) (sRet (eT (aC (eC (.str "deal")) (aC (b2 (eC (.int 1)) (b2 (eV 2) (eC (.int 2)) ixD) addD) (aC (cF 2 (aC (b2 (eV 0) (eC (.int 7)) fdivWD) (aC (b2 (eC (.int 1)) (b2 (eV 2) (eC (.int 2)) ixD) addD) (aN))) F__law_of_size) (aN)))))) (sNx)) (seqS (ifS (b1 (b2 (eV 4) (eC (.str "run")) eqD) boolO) (sRet (eT (aC (eC (.str "run")) (aC (b2 (eV 2) (eC (.int 3)) ixD) (aN))))) (sNx)) (seqS (ifS (b1 (b2 (eV 4) (eC (.str "under")) eqD) boolO) (sRet (eT (aC (eC (.str "under")) (aC (b2 (eC (.int 1)) (b2 (eV 2) (eC (.int 4)) ixD) addD) (aC (b2 (eV 2) (eC (.int 5)) ixD) (aN)))))) (sNx)) (sRet (eT (aC (eV 4) (aN))))))))))
def F__law_some_shuffle : List D → Rs D := callS 5 g__law_some_shuffle
/-- _law_shuffle_order(shuffle, n): shuffle, n, k -/
def g__law_shuffle_order : Env → Out := sRet (cF 2 (aC (eL (nLc [2] (cB (aC (eV 1) (aN)) rg1) (tgN 2) (tsYes) (eV 2))) (aC (eV 0) (aN))) F__law_shuffled)
def F__law_shuffle_order : List D → Rs D := callS 3 g__law_shuffle_order
end DL
set_option Elab.async false
set_option linter.all false
set_option maxRecDepth 100000
set_option maxHeartbeats 8000000

/-! What the defs of the text compute, on data (printed by gen.py). -/
namespace DL
open PySem PySem.Spec PyProof.Rows L2


/-- is_letter(character): character -/
def g_is_letter : Env → Out := sRet (eCh leSD leSD (eC (.str "a")) (eV 0) (eC (.str "z")))
def F_is_letter : List D → Rs D := callS 1 g_is_letter
/-- is_any_letter(character): character -/
def g_is_any_letter : Env → Out := sRet (eOr (cF 1 (aC (eV 0) (aN)) F_is_letter) (eCh leSD leSD (eC (.str "A")) (eV 0) (eC (.str "Z"))))
def F_is_any_letter : List D → Rs D := callS 1 g_is_any_letter
/-- is_digit(character): character -/
def g_is_digit : Env → Out := sRet (eCh leSD leSD (eC (.str "0")) (eV 0) (eC (.str "9")))
def F_is_digit : List D → Rs D := callS 1 g_is_digit
/-- is_name(text): text, character -/
def g_is_name : Env → Out := seqS (ifS (tOr' (b1 (b2 (cB (aC (eV 0) (aN)) lenD) (eC (.int 1)) ltD) boolO) (tOr' (b1 (b2 (cB (aC (eV 0) (aN)) lenD) (eC (.int 12)) gtD) boolO) (tNot' (b1 (cF 1 (aC (b2 (eV 0) (eC (.int 0)) ixD) (aN)) F_is_letter) truD)))) (sRet (eC (.bool false))) (sNx)) (seqS (sFor (b1 (eV 0) sgnO) (tgN 1) (ifS (tAnd' (tNot' (b1 (cF 1 (aC (eV 1) (aN)) F_is_letter) truD)) (tNot' (b1 (cF 1 (aC (eV 1) (aN)) F_is_digit) truD))) (sRet (eC (.bool false))) (sNx))) (sRet (eC (.bool true))))
def F_is_name : List D → Rs D := callS 2 g_is_name
/-- run_of_digits(line, start): line, start, end -/
def g_run_of_digits : Env → Out := seqS (sSet 2 (eV 1)) (seqS (sWh (tAnd' (b1 (b2 (eV 2) (cB (aC (eV 0) (aN)) lenD) ltD) boolO) (b1 (cF 1 (aC (b2 (eV 0) (eV 2) ixD) (aN)) F_is_digit) truD)) (sAug 2 (eC (.int 1)) addA)) (sRet (eV 2)))
def F_run_of_digits : List D → Rs D := callS 3 g_run_of_digits
/-- run_of_letters(line, start): line, start, end -/
def g_run_of_letters : Env → Out := seqS (sSet 2 (eV 1)) (seqS (sWh (tAnd' (b1 (b2 (eV 2) (cB (aC (eV 0) (aN)) lenD) ltD) boolO) (tOr' (b1 (cF 1 (aC (b2 (eV 0) (eV 2) ixD) (aN)) F_is_letter) truD) (b1 (cF 1 (aC (b2 (eV 0) (eV 2) ixD) (aN)) F_is_digit) truD))) (sAug 2 (eC (.int 1)) addA)) (sRet (eV 2)))
def F_run_of_letters : List D → Rs D := callS 3 g_run_of_letters
/-- number_of_digits(digits): digits, value -/
def g_number_of_digits : Env → Out := seqS (ifS (tOr' (b1 (b2 (cB (aC (eV 0) (aN)) lenD) (eC (.int 7)) gtD) boolO) (tAnd' (b1 (b2 (cB (aC (eV 0) (aN)) lenD) (eC (.int 1)) gtD) boolO) (b1 (b2 (b2 (eV 0) (eC (.int 0)) ixD) (eC (.str "0")) eqD) boolO))) (sRet (eC .none)) (sNx)) (seqS (sSet 1 (cB (aC (eV 0) (aN)) intT)) (seqS (ifS (b1 (b2 (eV 1) (eC (.int 1000000)) gtD) boolO) (sRet (eC .none)) (sNx)) (sRet (eV 1))))
def F_number_of_digits : List D → Rs D := callS 2 g_number_of_digits
/-- token_at(line, at): line, at, character, end, value -/
def g_token_at : Env → Out := seqS (sSet 2 (b2 (eV 0) (eV 1) ixD)) (seqS (ifS (b1 (cF 1 (aC (eV 2) (aN)) F_is_digit) truD) (seqS (sSet 3 (cF 2 (aC (eV 0) (aC (eV 1) (aN))) F_run_of_digits)) (seqS (sSet 4 (cF 1 (aC (eCut (eV 0) (oS (eV 1)) (oS (eV 3))) (aN)) F_number_of_digits)) (seqS (ifS (tOr' (b1 (b1 (eV 4) fun d => some (.bool (isNoneD d))) boolO) (tAnd' (b1 (b2 (eV 3) (cB (aC (eV 0) (aN)) lenD) ltD) boolO) (b1 (cF 1 (aC (b2 (eV 0) (eV 3) ixD) (aN)) F_is_any_letter) truD))) (sRet (eC .none)) (sNx)) (sRet (eT (aC (eC (.str "number")) (aC (eV 4) (aC (eV 3) (aN))))))))) (sNx)) (seqS (ifS (b1 (cF 1 (aC (eV 2) (aN)) F_is_letter) truD) (seqS (sSet 3 (cF 2 (aC (eV 0) (aC (eV 1) (aN))) F_run_of_letters)) (sRet (eT (aC (eC (.str "word")) (aC (eCut (eV 0) (oS (eV 1)) (oS (eV 3))) (aC (eV 3) (aN))))))) (sNx)) (seqS (ifS (b1 (b2 (eV 2) (eC (.str "{}();,:=+-*<")) (inSD false)) boolO) (sRet (eT (aC (eC (.str "sign")) (aC (eV 2) (aC (b2 (eV 1) (eC (.int 1)) addD) (aN)))))) (sNx)) (sRet (eC .none)))))
def F_token_at : List D → Rs D := callS 5 g_token_at
/-- scan_line(line, number, found): line, number, found, at, token -/
def gW_scan_line : Env → List D → OutL := seqL (fun γ ls => liftO 2 γ ((sSet 3 (eC (.int 0))) γ) ls) (seqL (fun γ ls => whileL (b1 (b2 (eV 3) (cB (aC (eV 0) (aN)) lenD) ltD) boolO) (seqL (fun γ ls => liftO 2 γ ((ifS (b1 (b2 (b2 (eV 0) (eV 3) ixD) (eC (.str "#")) eqD) boolO) (sRet (eC (.int 0))) (sNx)) γ) ls) (ifL (b1 (b2 (b2 (eV 0) (eV 3) ixD) (eC (.str " ")) eqD) boolO) (fun γ ls => liftO 2 γ ((sAug 3 (eC (.int 1)) addA) γ) ls) (seqL (fun γ ls => liftO 2 γ ((sSet 4 (cF 2 (aC (eV 0) (aC (eV 3) (aN))) F_token_at)) γ) ls) (seqL (fun γ ls => liftO 2 γ ((ifS (b1 (b1 (eV 4) fun d => some (.bool (isNoneD d))) boolO) (sRet (b2 (eV 3) (eC (.int 1)) addD)) (sNx)) γ) ls) (seqL (appL 2 (eT (aC (b2 (eV 4) (eC (.int 0)) ixD) (aC (b2 (eV 4) (eC (.int 1)) ixD) (aC (eV 1) (aC (b2 (eV 3) (eC (.int 1)) addD) (aN))))))) (fun γ ls => liftO 2 γ ((sSet 3 (b2 (eV 4) (eC (.int 2)) ixD)) γ) ls)))))) FUEL γ ls) (fun γ ls => liftO 2 γ ((sRet (eC (.int 0))) γ) ls))
def FW_scan_line : Addr → List D → List D → Rs (D × List D) := callW 5 gW_scan_line
/-- scan(text): text, lines, found, number, line, column -/
noncomputable def g_scan : Env → Out := seqS (sSet 1 (eL (eM1 (eV 0) (eC (.str "\n")) splitN))) (seqS (sNew 2 (nL (aN))) (seqS (sSet 3 (eC (.int 0))) (seqS (sFor (b1 (eV 1) lstO) (tgN 4) (seqS (sAug 3 (eC (.int 1)) addA) (seqS (sSetW 5 2 3 (awC (eV 4) (awC (eV 3) (awN 2))) FW_scan_line) (ifS (b1 (b2 (eV 5) (eC (.int 0)) gtD) boolO) (seqS (appS 2 (eT (aC (eC (.str "fault")) (aC (eC (.str "")) (aC (eV 3) (aC (eV 5) (aN))))))) (sRet (eV 2))) (sNx))))) (seqS (appS 2 (eT (aC (eC (.str "end")) (aC (eC (.str "")) (aC (eV 3) (aC (b2 (cB (aC (b2 (eV 1) (b1 (eC (.int 1)) negD) ixD) (aN)) lenD) (eC (.int 1)) addD) (aN))))))) (sRet (eV 2))))))
noncomputable def F_scan : List D → Rs D := callS 6 g_scan
/-- tokens_of(text): text, found, last -/
noncomputable def g_tokens_of : Env → Out := seqS (sSet 1 (cF 1 (aC (eV 0) (aN)) F_scan)) (seqS (sSet 2 (b2 (eV 1) (b1 (eC (.int 1)) negD) ixD)) (seqS (ifS (b1 (b2 (b2 (eV 2) (eC (.int 0)) ixD) (eC (.str "fault")) eqD) boolO) (sRa ("BadText" : Str) [("line" : Str), ("column" : Str), ("reason" : Str)] ("BadText" : Str) (aC (b2 (eV 2) (eC (.int 2)) ixD) (aC (b2 (eV 2) (eC (.int 3)) ixD) (aC (eC (.str "token")) (aN))))) (sNx)) (sRet (eV 1))))
noncomputable def F_tokens_of : List D → Rs D := callS 3 g_tokens_of
end DL
set_option Elab.async false
set_option linter.all false
set_option maxRecDepth 100000
/-! Plain tools: how the functions on data are computed. -/
namespace DL
open PySem PySem.Spec PyProof.Rows L2

/-! ### the machine -/
@[simp] theorem gE_zero (d : D) (γ : Env) : gE (some d :: γ) 0 = .ok d := Eq.trans (Eq.refl _) rfl
@[simp] theorem gE_succ (x : Option D) (γ : Env) (i : Nat) : gE (x :: γ) (i + 1) = gE γ i := Eq.trans (Eq.refl _) rfl
@[simp] theorem lsE_zero (ds : List D) (γ : Env) : lsE (some (.list ds) :: γ) 0 = .ok ds := Eq.trans (Eq.refl _) rfl
@[simp] theorem lsE_succ (x : Option D) (γ : Env) (i : Nat) : lsE (x :: γ) (i + 1) = lsE γ i := Eq.trans (Eq.refl _) rfl
@[simp] theorem nArgs_1 (F : List D → Rs D) (a : D) : nArgs 1 F [a] = F [a] := Eq.trans (Eq.refl _) rfl
@[simp] theorem nArgs_2 (F : List D → Rs D) (a b : D) : nArgs 2 F [a, b] = F [a, b] := Eq.trans (Eq.refl _) rfl
@[simp] theorem nArgs_3 (F : List D → Rs D) (a b c : D) : nArgs 3 F [a, b, c] = F [a, b, c] := Eq.trans (Eq.refl _) rfl
@[simp] theorem nArgs_4 (F : List D → Rs D) (a b c d : D) : nArgs 4 F [a, b, c, d] = F [a, b, c, d] := Eq.trans (Eq.refl _) rfl
@[simp] theorem nArgs_5 (F : List D → Rs D) (a b c d e : D) : nArgs 5 F [a, b, c, d, e] = F [a, b, c, d, e] := Eq.trans (Eq.refl _) rfl
def thn (o : Out) (g : Env → Out) : Out := match o with
  | .nx γ => g γ
  | o => o
@[simp] theorem seqS_thn (f g : Env → Out) (γ : Env) : seqS f g γ = thn (f γ) g := by
  unfold seqS thn
  cases f γ <;> rfl
@[simp] theorem thn_nx (γ : Env) (g : Env → Out) : thn (.nx γ) g = g γ := Eq.trans (Eq.refl _) rfl
@[simp] theorem thn_rt (d : D) (g : Env → Out) : thn (.rt d) g = .rt d := Eq.trans (Eq.refl _) rfl
@[simp] theorem thn_bk (γ : Env) (g : Env → Out) : thn (.bk γ) g = .bk γ := Eq.trans (Eq.refl _) rfl
@[simp] theorem thn_ct (γ : Env) (g : Env → Out) : thn (.ct γ) g = .ct γ := Eq.trans (Eq.refl _) rfl
@[simp] theorem thn_er (c : Str) (fs : List (Str × D)) (γ : Env) (g : Env → Out) : thn (.er c fs γ) g = .er c fs γ := Eq.trans (Eq.refl _) rfl
theorem thn_ite (c : Prop) [Decidable c] (a b : Out) (g : Env → Out) : thn (if c then a else b) g = if c then thn a g else thn b g := by split <;> rfl
def outR : Out → Rs D
  | .rt d => .ok d
  | .nx _ => .ok .none
  | .er c fs _ => .er c fs
  | _ => .no
theorem callS_eq (m : Nat) (f : Env → Out) (ds : List D) : callS m f ds = outR (f (ds.map some ++ List.replicate (m - ds.length) none)) := Eq.trans (Eq.refl _) rfl
@[simp] theorem outR_rt (d : D) : outR (.rt d) = .ok d := Eq.trans (Eq.refl _) rfl
@[simp] theorem outR_nx (γ : Env) : outR (.nx γ) = .ok .none := Eq.trans (Eq.refl _) rfl
@[simp] theorem outR_er (c : Str) (fs : List (Str × D)) (γ : Env) : outR (.er c fs γ) = .er c fs := Eq.trans (Eq.refl _) rfl
theorem outR_ite (c : Prop) [Decidable c] (a b : Out) : outR (if c then a else b) = if c then outR a else outR b := by split <;> rfl
@[simp] theorem ifS_eq (t : Env → Rs Bool) (f g : Env → Out) (γ : Env) : ifS t f g γ = liftS (t γ) γ fun b => if b = true then f γ else g γ := Eq.trans (Eq.refl _) rfl
@[simp] theorem andR_ok (b : Bool) (y : Rs Bool) : andR (.ok b) y = if b = true then y else .ok false := Eq.trans (Eq.refl _) rfl
@[simp] theorem orR_ok (b : Bool) (y : Rs Bool) : orR (.ok b) y = if b = true then .ok true else y := Eq.trans (Eq.refl _) rfl
@[simp] theorem andVR_ok (b : Bool) (y : Rs D) : andVR (.ok (.bool b)) y = if b = true then y else .ok (.bool false) := by cases b <;> rfl
@[simp] theorem orVR_ok (b : Bool) (y : Rs D) : orVR (.ok (.bool b)) y = if b = true then .ok (.bool true) else y := by cases b <;> rfl
@[simp] theorem appS_eq (i : Nat) (fe : Env → Rs D) (γ : Env) : appS i fe γ = liftS ((lsE γ i).bind fun ds => (fe γ).bind fun d => oR (if ds.length < LIM then some (ds ++ [d]) else none)) γ fun es => .nx (γ.set i (some (.list es))) := Eq.trans (Eq.refl _) rfl
@[simp] theorem putS_eq (i : Nat) (fe fi : Env → Rs D) (γ : Env) : putS i fe fi γ = liftS ((fe γ).bind fun d => (lsE γ i).bind fun ds => (fi γ).bind fun k => oR (putL ds d k)) γ fun es => .nx (γ.set i (some (.list es))) := Eq.trans (Eq.refl _) rfl
@[simp] theorem tgN_eq (i : Nat) (d : D) (γ : Env) : tgN i d γ = some (γ.set i (some d)) := Eq.trans (Eq.refl _) rfl
@[simp] theorem tgT_eq (u : List D → Env → Option Env) (n : Nat) (ds : List D) (γ : Env) : tgT n u (.tuple ds) γ = if ds.length = n then u ds γ else none := Eq.trans (Eq.refl _) rfl
@[simp] theorem tgCons_eq (t : D → Env → Option Env) (u : List D → Env → Option Env) (d : D) (r : List D) (γ : Env) : tgCons t u (d :: r) γ = (t d γ).bind (u r) := Eq.trans (Eq.refl _) rfl
@[simp] theorem tgNil_eq (γ : Env) : tgNil [] γ = some γ := Eq.trans (Eq.refl _) rfl
@[simp] theorem tsYes_eq (γ : Env) : tsYes γ = .ok true := Eq.trans (Eq.refl _) rfl

/-! ### operations on ints -/
@[simp] theorem iiD_int (C : Int → Int → Bool) (F : Int → Int → D) (i j : Int) : iiD C F (.int i) (.int j) = if C i j = true then some (F i j) else none := Eq.trans (Eq.refl _) rfl
@[simp] theorem ltD_int (i j : Int) : ltD (.int i) (.int j) = some (.bool (decide (i < j))) := Eq.trans (Eq.refl _) rfl
@[simp] theorem leD_int (i j : Int) : leD (.int i) (.int j) = some (.bool (decide (i ≤ j))) := Eq.trans (Eq.refl _) rfl
@[simp] theorem gtD_int (i j : Int) : gtD (.int i) (.int j) = some (.bool (decide (j < i))) := Eq.trans (Eq.refl _) rfl
@[simp] theorem geD_int (i j : Int) : geD (.int i) (.int j) = some (.bool (decide (j ≤ i))) := Eq.trans (Eq.refl _) rfl
@[simp] theorem boolO_bool (b : Bool) : boolO (.bool b) = some b := Eq.trans (Eq.refl _) rfl
@[simp] theorem truD_bool (b : Bool) : truD (.bool b) = some b := Eq.trans (Eq.refl _) rfl
@[simp] theorem addD_int (i j : Int) : addD (.int i) (.int j) = some (.int (i + j)) := Eq.trans (Eq.refl _) rfl
@[simp] theorem addA_int (i j : Int) : addA (.int i) (.int j) = some (.int (i + j)) := Eq.trans (Eq.refl _) rfl
@[simp] theorem subD_int (i j : Int) : subD (.int i) (.int j) = some (.int (i - j)) := Eq.trans (Eq.refl _) rfl
@[simp] theorem negD_int (i : Int) : negD (.int i) = some (.int (-i)) := Eq.trans (Eq.refl _) rfl
@[simp] theorem intD_int (i : Int) : intD [.int i] = some (.int i) := Eq.trans (Eq.refl _) rfl
@[simp] theorem absD_int (i : Int) : absD [.int i] = some (.int i.natAbs) := by
  show some (PyData.int (if i < 0 then -i else i)) = _
  have : (if i < 0 then -i else i) = (i.natAbs : Int) := by split <;> omega
  rw [this]
@[simp] theorem intO_int (i : Int) : intO (.int i) = some (some i) := Eq.trans (Eq.refl _) rfl
theorem mulD_int {i j : Int} (h : (-18446744073709551616 < i ∧ i < 18446744073709551616) ∨ (-18446744073709551616 < j ∧ j < 18446744073709551616)) : mulD (.int i) (.int j) = some (.int (i * j)) := by
  show (if mulOk i j = true then some (PyData.int (i * j)) else none) = _
  rw [if_pos (show mulOk i j = true from decide_eq_true h)]
theorem modD_int {i j : Int} (h : 0 < j) : modD (.int i) (.int j) = some (.int (i % j)) := by
  show (if decide (0 < j) = true then _ else _) = _
  rw [if_pos (decide_eq_true h)]
theorem fdivD_int {i j : Int} (h : 0 < j) (h2 : j < 18446744073709551616) : fdivD (.int i) (.int j) = some (.int (i / j)) := by
  show (if decide (0 < j ∧ j < 18446744073709551616) = true then _ else _) = _
  rw [if_pos (decide_eq_true ⟨h, h2⟩)]
@[simp] theorem isB_bool (neg i j : Bool) : isB neg (.bool i) (.bool j) = some (.bool (neg != decide (i = j))) := Eq.trans (Eq.refl _) rfl
@[simp] theorem notD_bool (b : Bool) : notD (.bool b) = some (.bool (!b)) := Eq.trans (Eq.refl _) rfl

/-! ### lists -/
@[simp] abbrev iL (ns : List Int) : D := .list (ns.map PyData.int)
@[simp] abbrev nI (n : Nat) : D := .int (n : Int)
@[simp] abbrev oL (ns : List Nat) : D := .list (ns.map nI)
@[simp] theorem lenD_list (ds : List D) : lenD [.list ds] = some (.int (ds.length : Nat)) := Eq.trans (Eq.refl _) rfl
@[simp] theorem lenD_tuple (ds : List D) : lenD [.tuple ds] = some (.int (ds.length : Nat)) := Eq.trans (Eq.refl _) rfl
@[simp] theorem lenD_rol (ds : List D) : lenD [rolD ds] = some (.int (ds.length : Nat)) := Eq.trans (Eq.refl _) rfl
@[simp] theorem lstO_list (ds : List D) : lstO (.list ds) = some ds := Eq.trans (Eq.refl _) rfl
@[simp] theorem lstD_list (ds : List D) : lstD [.list ds] = some ds := Eq.trans (Eq.refl _) rfl
@[simp] theorem plO_list (ds : List D) : plO (.list ds) = some ds := Eq.trans (Eq.refl _) rfl
theorem szL_ok {ds : List D} (h : ds.length ≤ LIM) : szL ds = some ds := if_pos h
theorem szT_ok {ds : List D} (h : ds.length ≤ LIM) : szT ds = some (.tuple ds) := if_pos h
@[simp] theorem szL_0 : szL [] = some [] := Eq.trans (Eq.refl _) rfl
@[simp] theorem szL_1 (a : D) : szL [a] = some [a] := Eq.trans (Eq.refl _) rfl
@[simp] theorem szL_2 (a b : D) : szL [a, b] = some [a, b] := Eq.trans (Eq.refl _) rfl
@[simp] theorem szL_3 (a b c : D) : szL [a, b, c] = some [a, b, c] := Eq.trans (Eq.refl _) rfl
@[simp] theorem szL_4 (a b c d : D) : szL [a, b, c, d] = some [a, b, c, d] := Eq.trans (Eq.refl _) rfl
@[simp] theorem szT_1 (a : D) : szT [a] = some (.tuple [a]) := Eq.trans (Eq.refl _) rfl
@[simp] theorem szT_2 (a b : D) : szT [a, b] = some (.tuple [a, b]) := Eq.trans (Eq.refl _) rfl
@[simp] theorem szT_3 (a b c : D) : szT [a, b, c] = some (.tuple [a, b, c]) := Eq.trans (Eq.refl _) rfl
theorem ixN_nat {n : Nat} {i : Nat} (h : i < n) : L2.ixN n (i : Int) = some i := by
  unfold L2.ixN
  simp [h]
theorem ixD_list {ds : List D} {i : Nat} (h : i < ds.length) : ixD (.list ds) (.int (i : Int)) = some ds[i] := by
  show L2.atI ds (i : Int) = _
  unfold L2.atI
  rw [ixN_nat h]
  simp [h]
theorem ixD_rol {ds : List D} {i : Nat} (h : i < ds.length) : ixD (rolD ds) (.int (i : Int)) = some ds[i] := by
  show L2.atI ds (i : Int) = _
  unfold L2.atI
  rw [ixN_nat h]
  simp [h]
theorem ixD_tuple {ds : List D} {i : Nat} (h : i < ds.length) : ixD (.tuple ds) (.int (i : Int)) = some ds[i] := by
  show L2.atI ds (i : Int) = _
  unfold L2.atI
  rw [ixN_nat h]
  simp [h]
theorem ixD_int {ns : List Int} {i : Int} (h0 : 0 ≤ i) (h : i < ns.length) : ixD (iL ns) (.int i) = some (.int (ns.getD i.toNat 0)) := by
  obtain ⟨n, rfl⟩ := Int.eq_ofNat_of_zero_le h0
  have hn : n < ns.length := by omega
  have := ixD_list (ds := ns.map PyData.int) (i := n) (by simpa using hn)
  rw [this]
  simp [hn]
theorem ixD_intN {ns : List Int} {i : Nat} (h : i < ns.length) : ixD (iL ns) (nI i) = some (.int (ns.getD i 0)) := by
  rw [ixD_int (by omega) (by omega)]
  simp
theorem ixD_nat {ns : List Nat} {i : Nat} (h : i < ns.length) : ixD (oL ns) (nI i) = some (nI (ns.getD i 0)) := by
  have := ixD_list (ds := ns.map nI) (i := i) (by simpa using h)
  rw [this]
  simp [h]
theorem putL_nat {ds : List D} {d : D} {i : Nat} (h : i < ds.length) : putL ds d (nI i) = some (ds.set i d) := by
  show (L2.ixN ds.length (i : Int)).map _ = _
  rw [ixN_nat h]
  rfl
theorem rgD_nat (n : Nat) : rgD 0 (n : Int) = (List.range n).map nI := by
  unfold rgD
  simp
theorem rgD_from (a : Nat) (n : Nat) : rgD (a : Int) (n : Int) = (List.range' a (n - a)).map nI := by
  unfold rgD
  rw [show ((n : Int) - (a : Int)).toNat = n - a by omega]
  rw [List.range'_eq_map_range, List.map_map]
  apply List.map_congr_left
  intro k _
  simp [nI]
theorem rg1_nat {n : Nat} (h : n ≤ 1000000000000000000) : rg1 [.int (n : Int)] = some ((List.range n).map nI) := by
  show (if -RLIM ≤ (n : Int) ∧ (n : Int) ≤ RLIM then some (rgD 0 n) else none) = _
  rw [if_pos (by unfold RLIM; omega), rgD_nat]
theorem rg1_int {n : Int} (h0 : 0 ≤ n) (h : n ≤ 1000000000000000000) : rg1 [.int n] = some ((List.range n.toNat).map nI) := by
  obtain ⟨m, rfl⟩ := Int.eq_ofNat_of_zero_le h0
  rw [rg1_nat (by omega)]
  simp
theorem rg2_nat {a n : Nat} (h0 : a ≤ 1000000000000000000) (h : n ≤ 1000000000000000000) : rg2 [.int (a : Int), .int (n : Int)] = some ((List.range' a (n - a)).map nI) := by
  show (if (-RLIM ≤ (a : Int) ∧ (a : Int) ≤ RLIM) ∧ (-RLIM ≤ (n : Int) ∧ (n : Int) ≤ RLIM) then some (rgD a n) else none) = _
  rw [if_pos (by unfold RLIM; omega), rgD_from]
theorem rgL1_nat {n : Nat} (h : n ≤ LIM) : rgL1 (.int (n : Int)) = some ((List.range n).map nI) := by
  show (if _ then _ else _) = _
  rw [if_pos (by omega), rgD_nat]
theorem repD_nat {ds : List D} {k : Nat} (h : k ≤ LIM) (h2 : ds.length * k ≤ LIM) : repD ds (.int (k : Int)) = some (List.replicate k ds).flatten := by
  show (if _ then _ else _) = _
  rw [if_pos (by simp only [Int.toNat_natCast]; omega)]
  simp
theorem rep_one {α : Type} (a : α) (k : Nat) : (List.replicate k [a]).flatten = List.replicate k a := by
  induction k with
  | zero => rfl
  | succ k ih => rw [List.replicate_succ, List.replicate_succ, List.flatten_cons, ih]; rfl
theorem intsO_nat (ns : List Nat) : intsO (ns.map nI) = some (ns.map fun n : Nat => (n : Int)) := by
  induction ns with
  | nil => rfl
  | cons a r ih => simp [intsO, ih]
@[simp] theorem srtD_int (ns : List Int) : srtD [iL ns] = some ((srtI ns).map PyData.int) := by
  unfold srtD
  simp only [intsO_map]
  rfl
theorem addD_list {a b : List D} (h : a.length + b.length ≤ LIM) : addD (.list a) (.list b) = some (.list (a ++ b)) := if_pos h
/-! slices -/
theorem cutD_to (ds : List D) (k : Nat) : cutD ds none (some (k : Int)) = ds.take k := by
  unfold cutD
  rw [HT.sIx_nat, HT.sIx_none]
  simp
theorem cutD_from (ds : List D) (k : Nat) : cutD ds (some (k : Int)) none = ds.drop k := by
  unfold cutD
  rw [HT.sIx_nat, HT.sIx_none]
  by_cases h : k ≤ ds.length
  · rw [Nat.min_eq_left h, List.take_of_length_le (by simp)]
  · rw [Nat.min_eq_right (by omega), List.drop_eq_nil_of_le (Nat.le_refl _), List.drop_eq_nil_of_le (by omega)]
    simp
@[simp] theorem cutAD_list (ds : List D) (a b : Option Int) : cutAD a b (.list ds) = some (.list (cutD ds a b)) := Eq.trans (Eq.refl _) rfl
@[simp] theorem cutLD_list (ds : List D) (a b : Option Int) : cutLD a b (.list ds) = some (cutD ds a b) := Eq.trans (Eq.refl _) rfl

/-! ### shapes and equality -/
def Ok (k : Nat) (d : D) : Prop := d.canLay0 = true ∧ d.depth ≤ k
theorem Ok.shaped {d : D} (h : Ok 64 d) : SeqAt.shaped d = true := by
  unfold SeqAt.shaped
  rw [h.1, decide_eq_true h.2]
  rfl
theorem Ok.mono {j k : Nat} {d : D} (h : Ok j d) (hk : j ≤ k) : Ok k d := ⟨h.1, Nat.le_trans h.2 hk⟩
theorem ok_int (k : Nat) (i : Int) : Ok k (.int i) := ⟨rfl, Nat.zero_le _⟩
theorem ok_none (k : Nat) : Ok k .none := ⟨rfl, Nat.zero_le _⟩
theorem ok_bool (k : Nat) (b : Bool) : Ok k (.bool b) := ⟨rfl, Nat.zero_le _⟩
theorem ok_str (k : Nat) {x : Str} (h : PyData.strOk x = true := by decide +kernel) : Ok k (.str x) := ⟨h, Nat.zero_le _⟩
theorem ok_all {k : Nat} : ∀ {ds : List D}, (∀ d ∈ ds, Ok k d) → PyData.canLayAll0 ds = true ∧ PyData.depthAll ds ≤ k
  | [], _ => ⟨rfl, Nat.zero_le _⟩
  | d :: ds, h => by
    obtain ⟨h1, h2⟩ := h d List.mem_cons_self
    obtain ⟨h3, h4⟩ := ok_all fun z hz => h z (List.mem_cons_of_mem _ hz)
    refine ⟨?_, ?_⟩
    · unfold PyData.canLayAll0; rw [h1, h3]; rfl
    · unfold PyData.depthAll; omega
theorem ok_list {k : Nat} {ds : List D} (h : ∀ d ∈ ds, Ok k d) : Ok (k + 1) (.list ds) := by
  obtain ⟨h1, h2⟩ := ok_all h
  refine ⟨by unfold PyData.canLay0; exact h1, ?_⟩
  unfold PyData.depth; omega
theorem ok_tuple {k : Nat} {ds : List D} (h : ∀ d ∈ ds, Ok k d) : Ok (k + 1) (.tuple ds) := by
  obtain ⟨h1, h2⟩ := ok_all h
  refine ⟨by unfold PyData.canLay0; exact h1, ?_⟩
  unfold PyData.depth; omega
theorem ok_map {α : Type} {k : Nat} {f : α → D} {xs : List α} (h : ∀ x ∈ xs, Ok k (f x)) : Ok (k + 1) (.list (xs.map f)) := ok_list fun d hd => by
  obtain ⟨x, hx, rfl⟩ := List.mem_map.mp hd
  exact h x hx
theorem ok_ints (k : Nat) (ns : List Int) : Ok (k + 1) (iL ns) := ok_map fun _ _ => ok_int _ _
theorem ok_nats (k : Nat) (ns : List Nat) : Ok (k + 1) (oL ns) := ok_map fun _ _ => ok_int _ _
theorem ok_pair {k : Nat} {a b : D} (h1 : Ok k a) (h2 : Ok k b) : Ok (k + 1) (.tuple [a, b]) := ok_tuple fun d hd => by
  simp only [List.mem_cons, List.not_mem_nil, or_false] at hd
  rcases hd with rfl | rfl
  · exact h1
  · exact h2
theorem ok_value {k : Nat} {d : D} (h : Ok k d) : Ok (k + 1) (.tuple [.str "value", d]) := ok_pair (ok_str _) h
theorem ok_all_iff {k : Nat} : ∀ {ds : List D}, (PyData.canLayAll0 ds = true ∧ PyData.depthAll ds ≤ k) ↔ ∀ d ∈ ds, Ok k d
  | [] => ⟨fun _ _ h => (List.not_mem_nil h).elim, fun _ => ⟨rfl, Nat.zero_le _⟩⟩
  | d :: ds => by
    refine ⟨fun ⟨h1, h2⟩ => ?_, fun h => ok_all h⟩
    unfold PyData.canLayAll0 at h1
    unfold PyData.depthAll at h2
    obtain ⟨h3, h4⟩ := Bool.and_eq_true_iff.mp h1
    intro z hz
    rcases List.mem_cons.mp hz with e | e
    · subst e; exact ⟨h3, by omega⟩
    · exact ok_all_iff.mp ⟨h4, by omega⟩ z e
@[simp] theorem ok_list_iff {k : Nat} {ds : List D} : Ok (k + 1) (.list ds) ↔ ∀ d ∈ ds, Ok k d := by
  rw [← ok_all_iff]
  unfold Ok PyData.canLay0 PyData.depth
  exact and_congr Iff.rfl (by omega)
@[simp] theorem ok_tuple_iff {k : Nat} {ds : List D} : Ok (k + 1) (.tuple ds) ↔ ∀ d ∈ ds, Ok k d := by
  rw [← ok_all_iff]
  unfold Ok PyData.canLay0 PyData.depth
  exact and_congr Iff.rfl (by omega)
@[simp] theorem ok_int_iff (k : Nat) (i : Int) : Ok k (.int i) ↔ True := iff_true_intro (ok_int k i)
@[simp] theorem ok_none_iff (k : Nat) : Ok k .none ↔ True := iff_true_intro (ok_none k)
@[simp] theorem ok_bool_iff (k : Nat) (b : Bool) : Ok k (.bool b) ↔ True := iff_true_intro (ok_bool k b)
theorem ok_str_iff (k : Nat) (x : Str) : Ok k (.str x) ↔ PyData.strOk x = true := ⟨fun h => h.1, fun h => ⟨h, Nat.zero_le _⟩⟩
@[simp] theorem ok_value_iff (k : Nat) : Ok k (.str "value") ↔ True := iff_true_intro (ok_str k)
@[simp] theorem ok_order_iff (k : Nat) : Ok k (.str "order") ↔ True := iff_true_intro (ok_str k)
@[simp] theorem ok_unequal_iff (k : Nat) : Ok k (.str "unequal") ↔ True := iff_true_intro (ok_str k)
@[simp] theorem ok_range_iff (k : Nat) : Ok k (.str "range") ↔ True := iff_true_intro (ok_str k)
@[simp] theorem ok_other_iff (k : Nat) : Ok k (.str "other") ↔ True := iff_true_intro (ok_str k)
@[simp] theorem ok_bad_iff (k : Nat) : Ok k (.str "bad") ↔ True := iff_true_intro (ok_str k)
@[simp] theorem ok_stack_iff (k : Nat) : Ok k (.str "stack") ↔ True := iff_true_intro (ok_str k)
@[simp] theorem ok_large_iff (k : Nat) : Ok k (.str "large") ↔ True := iff_true_intro (ok_str k)
@[simp] theorem ok_optint (k : Nat) (x : Option Int) : Ok k ((x.map PyData.int).getD .none) ↔ True := iff_true_intro (by cases x <;> simp)
@[simp] theorem ok_nats_iff (k : Nat) (l : List Nat) : Ok (k + 1) (.list (l.map nI)) ↔ True := iff_true_intro (ok_nats k l)
@[simp] theorem ok_ints_iff (k : Nat) (l : List Int) : Ok (k + 1) (.list (l.map PyData.int)) ↔ True := iff_true_intro (ok_ints k l)
@[simp] theorem ok_natss_iff (k : Nat) (l : List (List Nat)) : Ok (k + 1 + 1) (.list (l.map oL)) ↔ True := iff_true_intro (ok_map fun _ _ => ok_nats _ _)
@[simp] theorem ok_intss_iff (k : Nat) (l : List (List Int)) : Ok (k + 1 + 1) (.list (l.map iL)) ↔ True := iff_true_intro (ok_map fun _ _ => ok_ints _ _)
mutual
theorem eqv_self : ∀ {d : D}, d.canLay0 = true → PyData.eqv d d = true
  | .none, _ => rfl
  | .bool b, _ => by simp [PyData.eqv]
  | .int i, _ => by simp [PyData.eqv]
  | .str x, _ => by simp [PyData.eqv]
  | .list xs, h => by
    unfold PyData.eqv
    exact eqv_selfs (ds := xs) (by unfold PyData.canLay0 at h; exact h)
  | .tuple xs, h => by
    unfold PyData.eqv
    exact eqv_selfs (ds := xs) (by unfold PyData.canLay0 at h; exact h)
  | .dict _, h => by cases h
theorem eqv_selfs : ∀ {ds : List D}, PyData.canLayAll0 ds = true → PyData.eqvAll ds ds = true
  | [], _ => rfl
  | d :: ds, h => by
    unfold PyData.canLayAll0 at h
    obtain ⟨h1, h2⟩ := Bool.and_eq_true_iff.mp h
    unfold PyData.eqvAll
    rw [eqv_self h1, eqv_selfs h2]
    rfl
end
theorem eqD_eqv {d e : D} (h1 : Ok 64 d) (h2 : Ok 64 e) : eqD d e = some (.bool (PyData.eqv d e)) := if_pos ⟨h1.shaped, h2.shaped⟩
theorem neD_eqv {d e : D} (h1 : Ok 64 d) (h2 : Ok 64 e) : neD d e = some (.bool (!PyData.eqv d e)) := if_pos ⟨h1.shaped, h2.shaped⟩
theorem eqD_self {d : D} (h : Ok 64 d) : eqD d d = some (.bool true) := by rw [eqD_eqv h h, eqv_self h.1]
theorem neD_self {d : D} (h : Ok 64 d) : neD d d = some (.bool false) := by rw [neD_eqv h h, eqv_self h.1]; rfl
@[simp] theorem eqD_same {d : D} (h : Ok 64 d) : eqD d d = some (.bool true) := eqD_self h
@[simp] theorem neD_same {d : D} (h : Ok 64 d) : neD d d = some (.bool false) := neD_self h
@[simp] theorem eqD_int (i j : Int) : eqD (.int i) (.int j) = some (.bool (decide (i = j))) := by
  rw [eqD_eqv (ok_int _ _) (ok_int _ _)]
  simp [PyData.eqv]
  rfl
@[simp] theorem neD_int (i j : Int) : neD (.int i) (.int j) = some (.bool (!decide (i = j))) := by
  rw [neD_eqv (ok_int _ _) (ok_int _ _)]
  simp [PyData.eqv]
  rfl
theorem eqv_ints : ∀ (a b : List Int), PyData.eqvAll (a.map PyData.int) (b.map PyData.int) = decide (a = b)
  | [], [] => rfl
  | [], _ :: _ => rfl
  | _ :: _, [] => rfl
  | x :: a, y :: b => by
    show (PyData.eqv (.int x) (.int y) && PyData.eqvAll (a.map PyData.int) (b.map PyData.int)) = _
    rw [eqv_ints a b]
    simp [PyData.eqv]
    by_cases h : x = y <;> by_cases h2 : a = b <;> simp [h, h2]
theorem eqD_ints (a b : List Int) : eqD (iL a) (iL b) = some (.bool (decide (a = b))) := by
  rw [eqD_eqv (ok_ints _ _) (ok_ints _ _)]
  unfold PyData.eqv
  rw [eqv_ints]
theorem neD_ints (a b : List Int) : neD (iL a) (iL b) = some (.bool (!decide (a = b))) := by
  rw [neD_eqv (ok_ints _ _) (ok_ints _ _)]
  unfold PyData.eqv
  rw [eqv_ints]

/-! ### loops -/
/-- what a turn comes to: P for the next turn, Q where the loop ends here -/
def turn (P : Env → Prop) (Q : Out → Prop) : Out → Prop
  | .nx γ => P γ
  | .ct γ => P γ
  | .bk γ => Q (.nx γ)
  | .rt d => Q (.rt d)
  | .er c fs γ => Q (.er c fs γ)
  | .no => False
@[simp] theorem turn_nx (P : Env → Prop) (Q : Out → Prop) (γ : Env) : turn P Q (.nx γ) = P γ := Eq.trans (Eq.refl _) rfl
@[simp] theorem turn_ct (P : Env → Prop) (Q : Out → Prop) (γ : Env) : turn P Q (.ct γ) = P γ := Eq.trans (Eq.refl _) rfl
@[simp] theorem turn_bk (P : Env → Prop) (Q : Out → Prop) (γ : Env) : turn P Q (.bk γ) = Q (.nx γ) := Eq.trans (Eq.refl _) rfl
@[simp] theorem turn_rt (P : Env → Prop) (Q : Out → Prop) (d : D) : turn P Q (.rt d) = Q (.rt d) := Eq.trans (Eq.refl _) rfl
@[simp] theorem turn_er (P : Env → Prop) (Q : Out → Prop) (c : Str) (fs : List (Str × D)) (γ : Env) : turn P Q (.er c fs γ) = Q (.er c fs γ) := Eq.trans (Eq.refl _) rfl
theorem forS_turns {α : Type} {t : D → Env → Option Env} {b : Env → Out} {Q : Out → Prop} (g : α → D) (P : Nat → Env → Prop) (xs : List α) {γ : Env} (h0 : P 0 γ)
    (step : ∀ (i : Nat) (hi : i < xs.length) γ, P i γ → ∃ γ1, t (g xs[i]) γ = some γ1 ∧ turn (P (i + 1)) Q (b γ1)) (fin : ∀ γ, P xs.length γ → Q (.nx γ)) : Q (forS t b (xs.map g) γ) := by
  have key : ∀ (ys : List α) (i : Nat) (γ : Env), i + ys.length = xs.length → (∀ j (hj : j < ys.length), xs[i + j]? = some ys[j]) → P i γ → Q (forS t b (ys.map g) γ) := by
    intro ys
    induction ys with
    | nil =>
      intro i γ hl _ hp
      have : i = xs.length := by simpa using hl
      subst this
      exact fin γ hp
    | cons y ys ih =>
      intro i γ hl hx hp
      have hi : i < xs.length := by rw [List.length_cons] at hl; omega
      have hy : xs[i] = y := by
        have := hx 0 (by simp)
        simp only [Nat.add_zero, List.getElem_cons_zero] at this
        exact (List.getElem?_eq_some_iff.mp this).2
      obtain ⟨γ1, h1, h2⟩ := step i hi γ hp
      rw [hy] at h1
      have next : ∀ γ2, P (i + 1) γ2 → Q (forS t b (ys.map g) γ2) := fun γ2 hp2 => ih (i + 1) γ2 (by rw [List.length_cons] at hl; omega) (fun j hj => by
        have := hx (j + 1) (by simp; omega)
        rw [show i + 1 + j = i + (j + 1) by omega, this]
        simp) hp2
      rw [List.map_cons]
      unfold forS
      rw [h1]
      dsimp only
      cases hb : b γ1 with
      | nx γ2 => rw [hb] at h2; exact next γ2 h2
      | ct γ2 => rw [hb] at h2; exact next γ2 h2
      | bk γ2 => rw [hb] at h2; exact h2
      | rt d => rw [hb] at h2; exact h2
      | er c fs γ2 => rw [hb] at h2; exact h2
      | no => rw [hb] at h2; exact False.elim h2
  exact key xs 0 γ (by omega) (fun j hj => by rw [Nat.zero_add]; exact List.getElem?_eq_getElem hj) h0
/-- a loop that runs to its end -/
theorem forS_all {α : Type} {t : D → Env → Option Env} {b : Env → Out} (g : α → D) (P : Nat → Env → Prop) (xs : List α) {γ : Env} (h0 : P 0 γ)
    (step : ∀ (i : Nat) (hi : i < xs.length) γ, P i γ → ∃ γ1 γ2, t (g xs[i]) γ = some γ1 ∧ (b γ1 = .nx γ2 ∨ b γ1 = .ct γ2) ∧ P (i + 1) γ2) : ∃ γ', forS t b (xs.map g) γ = .nx γ' ∧ P xs.length γ' :=
  forS_turns (Q := fun o => ∃ γ', o = .nx γ' ∧ P xs.length γ') g P xs h0 (fun i hi γ hp => by
    obtain ⟨γ1, γ2, h1, h2, h3⟩ := step i hi γ hp
    refine ⟨γ1, h1, ?_⟩
    rcases h2 with h2 | h2 <;> rw [h2] <;> exact h3) fun γ hp => ⟨γ, rfl, hp⟩
theorem for_all {α : Type} {t : D → Env → Option Env} {b : Env → Out} {g : α → D} {xs : List α} {γ : Env} {o : Out} (hf : forS t b (xs.map g) γ = o) (P : Nat → Env → Prop) (h0 : P 0 γ)
    (step : ∀ (i : Nat) (hi : i < xs.length) γ, P i γ → ∃ γ1, t (g xs[i]) γ = some γ1 ∧ turn (P (i + 1)) (fun _ => False) (b γ1)) : ∃ γ', o = .nx γ' ∧ P xs.length γ' := by
  rw [← hf]
  refine forS_turns (Q := fun o => ∃ γ', o = .nx γ' ∧ P xs.length γ') g P xs h0 (fun i hi γ hp => ?_) fun γ hp => ⟨γ, rfl, hp⟩
  obtain ⟨γ1, h1, h2⟩ := step i hi γ hp
  refine ⟨γ1, h1, ?_⟩
  cases hb : b γ1 <;> rw [hb] at h2 <;> first | exact h2 | exact False.elim h2
/-- for k in range(n) -/
theorem for_rg {n : Nat} {t : D → Env → Option Env} {b : Env → Out} {γ : Env} {o : Out} (hf : forS t b ((List.range n).map nI) γ = o) (P : Nat → Env → Prop) (h0 : P 0 γ)
    (step : ∀ (i : Nat) (hi : i < n) γ, P i γ → ∃ γ1, t (nI i) γ = some γ1 ∧ turn (P (i + 1)) (fun _ => False) (b γ1)) : ∃ γ', o = .nx γ' ∧ P n γ' := by
  have := for_all hf P h0 (fun i hi γ hp => by
    rw [List.getElem_range]
    exact step i (by simpa using hi) γ hp)
  rwa [List.length_range] at this
theorem for_turns {α : Type} {t : D → Env → Option Env} {b : Env → Out} {g : α → D} {xs : List α} {γ : Env} {o : Out} (hf : forS t b (xs.map g) γ = o) (P : Nat → Env → Prop) (Q : Out → Prop) (h0 : P 0 γ)
    (step : ∀ (i : Nat) (hi : i < xs.length) γ, P i γ → ∃ γ1, t (g xs[i]) γ = some γ1 ∧ turn (P (i + 1)) Q (b γ1)) (fin : ∀ γ, P xs.length γ → Q (.nx γ)) : Q o := hf ▸ forS_turns g P xs h0 step fin
theorem for_rgT {n : Nat} {t : D → Env → Option Env} {b : Env → Out} {γ : Env} {o : Out} (hf : forS t b ((List.range n).map nI) γ = o) (P : Nat → Env → Prop) (Q : Out → Prop) (h0 : P 0 γ)
    (step : ∀ (i : Nat) (hi : i < n) γ, P i γ → ∃ γ1, t (nI i) γ = some γ1 ∧ turn (P (i + 1)) Q (b γ1)) (fin : ∀ γ, P n γ → Q (.nx γ)) : Q o :=
  for_turns hf P Q h0 (fun i hi γ hp => by
    rw [List.getElem_range]
    exact step i (by simpa using hi) γ hp) (by rwa [List.length_range])
theorem whileS_turns {t : Env → Rs Bool} {b : Env → Out} {Q : Out → Prop} (P : Nat → Env → Prop) (N : Nat) (hN : N ≤ 1000000000000000000000000000000) {γ : Env} (h0 : P 0 γ) (hb : ∀ k γ, P k γ → k ≤ N)
    (step : ∀ k γ, P k γ → (t γ = .ok true ∧ turn (P (k + 1)) Q (b γ)) ∨ (t γ = .ok false ∧ Q (.nx γ))) : Q (whileS t b FUEL γ) := by
  have key : ∀ (f k : Nat) (γ : Env), N < k + f → P k γ → Q (whileS t b f γ) := by
    intro f
    induction f with
    | zero => intro k γ hk hp; have := hb k γ hp; omega
    | succ f ih =>
      intro k γ hk hp
      unfold whileS
      rcases step k γ hp with ⟨h1, h2⟩ | ⟨h1, h2⟩
      · rw [h1, liftS_ok, if_pos rfl]
        cases hb2 : b γ with
        | nx γ2 => rw [hb2] at h2; exact ih (k + 1) γ2 (by omega) h2
        | ct γ2 => rw [hb2] at h2; exact ih (k + 1) γ2 (by omega) h2
        | bk γ2 => rw [hb2] at h2; exact h2
        | rt d => rw [hb2] at h2; exact h2
        | er c fs γ2 => rw [hb2] at h2; exact h2
        | no => rw [hb2] at h2; exact False.elim h2
      · rw [h1, liftS_ok, if_neg (by decide)]
        exact h2
  refine key FUEL 0 γ ?_ h0
  have : (1000000000000000000000000000000 : Nat) < FUEL := by unfold FUEL; decide
  omega
theorem while_turns {t : Env → Rs Bool} {b : Env → Out} {γ : Env} {o : Out} (hf : whileS t b FUEL γ = o) (P : Nat → Env → Prop) (Q : Out → Prop) (N : Nat) (hN : N ≤ 1000000000000000000000000000000) (h0 : P 0 γ) (hb : ∀ k γ, P k γ → k ≤ N)
    (step : ∀ k γ, P k γ → (t γ = .ok true ∧ turn (P (k + 1)) Q (b γ)) ∨ (t γ = .ok false ∧ Q (.nx γ))) : Q o := hf ▸ whileS_turns P N hN h0 hb step
/-! ### comprehensions -/
theorem compL_eq {α : Type} {t : D → Env → Option Env} {c : Env → Rs Bool} {f : Env → Rs D} {γ : Env} (g : α → D) (p : α → Bool) (y : α → D) : ∀ {xs : List α}, (∀ x ∈ xs, ∃ γ1, t (g x) γ = some γ1 ∧ c γ1 = .ok (p x) ∧ (p x = true → f γ1 = .ok (y x))) →
    compL t c f (xs.map g) γ = .ok ((xs.filter p).map y)
  | [], _ => rfl
  | x :: xs, h => by
    obtain ⟨γ1, h1, h2, h3⟩ := h x List.mem_cons_self
    have ih := compL_eq g p y fun z hz => h z (List.mem_cons_of_mem _ hz)
    rw [List.map_cons]
    unfold compL
    rw [h1]
    dsimp only
    rw [h2, noEr_ok, Rs.bind_ok]
    cases hp : p x with
    | false =>
      rw [if_neg (by decide), ih, List.filter_cons_of_neg (by rw [hp]; decide)]
    | true =>
      rw [if_pos rfl, h3 hp, noEr_ok, Rs.bind_ok, ih, List.filter_cons_of_pos hp]
      rfl
theorem compR_eq {α : Type} {vs : List Nat} {t : D → Env → Option Env} {c : Env → Rs Bool} {f : Env → Rs D} {γ : Env} {xs : List α} (g : α → D) (p : α → Bool) (y : α → D) (hl : xs.length ≤ LIM)
    (h : ∀ x ∈ xs, ∃ γ1, t (g x) (wipeE γ vs) = some γ1 ∧ c γ1 = .ok (p x) ∧ (p x = true → f γ1 = .ok (y x))) : compR vs t c f (xs.map g) γ = .ok ((xs.filter p).map y) := by
  unfold compR
  rw [compL_eq g p y h, Rs.bind_ok, szL_ok]
  · rfl
  · rw [List.length_map]; exact Nat.le_trans (List.length_filter_le _ _) hl
theorem compR_map {α : Type} {vs : List Nat} {t : D → Env → Option Env} {f : Env → Rs D} {γ : Env} {xs : List α} (g : α → D) (y : α → D) (hl : xs.length ≤ LIM)
    (h : ∀ x ∈ xs, ∃ γ1, t (g x) (wipeE γ vs) = some γ1 ∧ f γ1 = .ok (y x)) : compR vs t tsYes f (xs.map g) γ = .ok (xs.map y) := by
  have := compR_eq (c := tsYes) g (fun _ => true) y hl fun x hx => by
    obtain ⟨γ1, h1, h2⟩ := h x hx
    exact ⟨γ1, h1, rfl, fun _ => h2⟩
  rw [this, List.filter_eq_self.mpr fun _ _ => rfl]
/-- [y for x in xs] -/
theorem comp1 {α : Type} {i : Nat} {f : Env → Rs D} {γ : Env} {xs : List α} {g : α → D} (y : α → D) (hl : xs.length ≤ LIM) (h : ∀ x ∈ xs, f ((γ.set i none).set i (some (g x))) = .ok (y x)) : compR [i] (tgN i) tsYes f (xs.map g) γ = .ok (xs.map y) :=
  compR_map g y hl fun x hx => ⟨_, rfl, h x hx⟩
/-- [y for x in xs if p] -/
theorem comp1F {α : Type} {i : Nat} {c : Env → Rs Bool} {f : Env → Rs D} {γ : Env} {xs : List α} {g : α → D} (p : α → Bool) (y : α → D) (hl : xs.length ≤ LIM) (hc : ∀ x ∈ xs, c ((γ.set i none).set i (some (g x))) = .ok (p x)) (h : ∀ x ∈ xs, p x = true → f ((γ.set i none).set i (some (g x))) = .ok (y x)) :
    compR [i] (tgN i) c f (xs.map g) γ = .ok ((xs.filter p).map y) := compR_eq g p y hl fun x hx => ⟨_, rfl, hc x hx, h x hx⟩
@[simp] theorem wipeE_nil (γ : Env) : wipeE γ [] = γ := Eq.trans (Eq.refl _) rfl
@[simp] theorem wipeE_cons (γ : Env) (v : Nat) (vs : List Nat) : wipeE γ (v :: vs) = (wipeE γ vs).set v none := Eq.trans (Eq.refl _) rfl

/-! ### try -/
theorem tryS_ok {errs : List Str} {g : Env → Out} {l : List (Str × Option Nat × HFn)} {γ : Env} {d : D} (h : g γ = .rt d) : tryS errs g l γ = .rt d := by
  unfold tryS; rw [h]
theorem tryS_er {errs : List Str} {g : Env → Out} {l : List (Str × Option Nat × HFn)} {γ γ' : Env} {c : Str} {fs : List (Str × D)} (h : g γ = .er c fs γ') : tryS errs g l γ = if errs.contains c = true then catchS c fs γ' l else .no := by
  unfold tryS; rw [h]
end DL
set_option Elab.async false
set_option linter.all false
set_option maxRecDepth 100000
/-! Plain: the helpers of the laws, orders. -/
namespace DL
open PySem PySem.Spec PyProof.Rows L2

theorem F_check_between_eq (v a b : Int) : F_check_between [.int v, .int a, .int b] = if v < a ∨ v > b then .er "OutOfRange" [("value", .int v), ("label", .str "OutOfRange")] else .ok .none := by
  simp [F_check_between, callS_eq, g_check_between, flD]
  by_cases h : v < a <;> by_cases h2 : b < v <;> simp [h, h2]
abbrev cell (ns : List Int) (k : Nat) : Int := ns.getD k 0
@[simp] theorem F__law_cell_eq (ns : List Int) (k : Int) (h : 0 ≤ k) : F__law_cell [rolD (ns.map PyData.int), .int k] = .ok (.int (cell ns k.toNat)) := by
  obtain ⟨n, rfl⟩ := Int.eq_ofNat_of_zero_le h
  simp [F__law_cell, callS_eq, g__law_cell]
  by_cases h : n < ns.length
  · rw [if_pos h, ixD_rol (by simpa using h)]
    simp [h]
  · simp [h]

/-! ### draws -/
theorem getD_snoc_lt {α : Type} {l : List α} {a d : α} {k : Nat} (h : k < l.length) : (l ++ [a]).getD k d = l.getD k d := by
  simp [List.getD_eq_getElem?_getD, List.getElem?_append_left h]
theorem getD_snoc_eq {α : Type} {l : List α} {a d : α} : (l ++ [a]).getD l.length d = a := by simp [List.getD_eq_getElem?_getD]
/-- row i of the draws lies below limit i -/
def Below (ds ls : List Int) : Prop := ds.length = ls.length ∧ ∀ k, k < ls.length → 0 ≤ ds.getD k 0 ∧ ds.getD k 0 < ls.getD k 0
def PDraw (c : Int) (ls : List Int) (i : Nat) (γ : Env) : Prop := ∃ (row : List Int) (rest : Int) (great : Bool) (ks mixed : Option D), γ = [some (.int c), some (iL ls), some (iL row), some (.int rest), some (.bool great), ks, mixed] ∧ row.length = i ∧ ∀ k, k < i → 0 ≤ row.getD k 0 ∧ row.getD k 0 < ls.getD k 0
theorem below_snoc {row ls : List Int} {x : Int} (h : ∀ k, k < row.length → 0 ≤ row.getD k 0 ∧ row.getD k 0 < ls.getD k 0) (h0 : 0 ≤ x) (h1 : x < ls.getD row.length 0) : ∀ k, k < row.length + 1 → 0 ≤ (row ++ [x]).getD k 0 ∧ (row ++ [x]).getD k 0 < ls.getD k 0 := fun k hk => by
  by_cases e : k = row.length
  · subst e
    rw [getD_snoc_eq]
    exact ⟨h0, h1⟩
  · rw [getD_snoc_lt (by omega)]
    exact h k (by omega)
theorem F__law_draw_eq (c : Int) (ls : List Int) (hl : ∀ l ∈ ls, 0 < l ∧ l < 18446744073709551616) (hn : ls.length ≤ LIM) : ∃ ds : List Int, F__law_draw [.int c, iL ls] = .ok (iL ds) ∧ Below ds ls := by
  simp [F__law_draw, callS_eq, g__law_draw]
  rw [rg1_nat (by unfold LIM at hn; omega)]
  simp
  generalize hf : forS _ _ _ _ = o
  obtain ⟨γ', rfl, row, rest, great, ks, mixed, rfl, h2, h3⟩ := for_rg hf (PDraw c ls) ⟨[], _, _, _, _, rfl, rfl, fun k h => absurd h (Nat.not_lt_zero _)⟩ (by
    rintro i hi γ ⟨row, rest, great, ks, mixed, rfl, rfl, h3⟩
    obtain ⟨p1, p2⟩ := hl (ls.getD row.length 0) (by rw [List.getD_eq_getElem?_getD, List.getElem?_eq_getElem hi]; exact List.getElem_mem _)
    have hL : row.length < LIM := by omega
    have hix := ixD_intN hi
    have hb := fun x => below_snoc (x := x) h3
    generalize hm : ls.getD row.length 0 = m at hix p1 p2 hb
    refine ⟨_, rfl, ?_⟩
    have fin : ∀ x : Int, PDraw c ls (row.length + 1) [some (.int c), some (iL ls), some (iL (row ++ [x % m])), some (.int rest), some (.bool great), some (nI row.length), some (.int x)] := fun x =>
      ⟨_, _, _, _, _, rfl, by simp, hb _ (Int.emod_nonneg _ (by omega)) (Int.emod_lt_of_pos _ p1)⟩
    have fin2 : PDraw c ls (row.length + 1) [some (.int c), some (iL ls), some (iL (row ++ [rest % m])), some (.int (rest / m)), some (.bool great), some (nI row.length), mixed] :=
      ⟨_, _, _, _, _, rfl, by simp, hb _ (Int.emod_nonneg _ (by omega)) (Int.emod_lt_of_pos _ p1)⟩
    cases great with
    | false =>
      simp [hix, modD_int p1, fdivD_int p1 p2, mulD_int, modD_int, hL]
      simpa using fin _
    | true =>
      by_cases hc : m ≤ rest
      · simp [hix, modD_int p1, fdivD_int p1 p2, mulD_int, modD_int, hL, hc]
        simpa using fin2
      · simp [hix, modD_int p1, fdivD_int p1 p2, mulD_int, modD_int, hL, hc]
        simpa using fin _)
  simp
  exact ⟨row, rfl, h2, h3⟩

/-! ### drawn orders -/
theorem perm_step {o l : List Nat} {n p : Nat} (h : (o ++ l).Perm (List.range n)) (hp : p < l.length) : (o ++ [l.getD p 0] ++ (l.take p ++ l.drop (p + 1))).Perm (List.range n) := by
  refine .trans ?_ h
  have e : l = l.take p ++ (l.getD p 0 :: l.drop (p + 1)) := by
    have : l.getD p 0 = l[p] := by simp [List.getD_eq_getElem?_getD, hp]
    rw [this, List.getElem_cons_drop, List.take_append_drop]
  rw [List.append_assoc]
  refine List.Perm.append_left o ?_
  conv => rhs; rw [e]
  rw [List.singleton_append]
  exact List.perm_middle.symm
def PSize (c : Int) (n : Nat) (i : Nat) (γ : Env) : Prop := ∃ (l o : List Nat) (x y : Option D), γ = [some (.int c), some (nI n), some (oL l), some (oL o), x, y] ∧ (o ++ l).Perm (List.range n) ∧ o.length = i
theorem draw_sizes (n : Nat) : ((List.range n).map fun k : Nat => PyData.int ((n : Int) - k)) = ((List.range n).map fun k : Nat => (n : Int) - k).map PyData.int := by rw [List.map_map]; rfl
theorem sizes_ok {n : Nat} (hn : n ≤ LIM) : ∀ l ∈ (List.range n).map fun k : Nat => (n : Int) - k, 0 < l ∧ l < 18446744073709551616 := by
  intro l hl
  obtain ⟨k, hk, rfl⟩ := List.mem_map.mp hl
  rw [List.mem_range] at hk
  unfold LIM at hn
  omega
theorem F__law_of_size_eq (c : Int) (n : Nat) (hn : n ≤ LIM) : ∃ o : List Nat, F__law_of_size [.int c, nI n] = .ok (oL o) ∧ o.Perm (List.range n) := by
  have hr := rg1_nat (n := n) (by unfold LIM at hn; omega)
  simp [F__law_of_size, callS_eq, g__law_of_size, hr]
  rw [comp1 nI (by simpa using hn) (fun x hx => by simp)]
  simp [hr]
  rw [comp1 (fun k : Nat => PyData.int ((n : Int) - k)) (by simpa using hn) (fun x hx => by simp)]
  simp
  obtain ⟨ds, h1, h2, h3⟩ := F__law_draw_eq c _ (sizes_ok hn) (by simpa using hn)
  rw [draw_sizes, h1]
  simp
  generalize hf : forS _ _ _ _ = o
  obtain ⟨γ', rfl, l, o, x, y, rfl, h4, h5⟩ := for_all hf (PSize c n) ⟨List.range n, [], _, _, rfl, by simp, rfl⟩ (by
    rintro i hi γ ⟨l, o, x, y, rfl, h4, h5⟩
    have hlen := h4.length_eq
    rw [List.length_append, List.length_range] at hlen
    have hi2 : i < n := by rw [h2] at hi; simpa using hi
    obtain ⟨b1, b2⟩ := h3 i (by simpa using hi2)
    have e1 : ds.getD i 0 = ds[i] := by simp [List.getD_eq_getElem?_getD, hi]
    have e2 : ((List.range n).map fun k : Nat => (n : Int) - k).getD i 0 = (n : Int) - i := by simp [List.getD_eq_getElem?_getD, hi2]
    rw [e1] at b1 b2
    rw [e2] at b2
    obtain ⟨p, hp⟩ := Int.eq_ofNat_of_zero_le b1
    rw [hp] at b2 ⊢
    have hpl : p < l.length := by omega
    have hix := ixD_nat hpl
    have st := perm_step h4 hpl
    generalize hv : l.getD p 0 = v at hix st
    have hoL : o.length < LIM := by unfold LIM at hn ⊢; omega
    have c1 : cutD (l.map nI) none (some (p : Int)) = (l.take p).map nI := by rw [cutD_to, List.map_take]
    have c2 : cutD (l.map nI) (some ((p : Int) + 1)) none = (l.drop (p + 1)).map nI := by
      have := cutD_from (l.map nI) (p + 1)
      rw [List.map_drop]
      simpa using this
    have ca : addD (.list ((l.take p).map nI)) (.list ((l.drop (p + 1)).map nI)) = some (oL (l.take p ++ l.drop (p + 1))) := by
      rw [addD_list (by simp; omega), ← List.map_append]
    refine ⟨_, rfl, ?_⟩
    simp at c1 c2 ca hix ⊢
    simp [hix, hoL, c1, c2, ca]
    exact ⟨l.take p ++ l.drop (p + 1), o ++ [v], some (nI p), y, by simp, by simpa using st, by simp [h5]⟩)
  simp
  refine ⟨o, rfl, ?_⟩
  have hlen := h4.length_eq
  rw [List.length_append, List.length_range] at hlen
  have hl : l = [] := by
    have h6 : ds.length = n := by simpa using h2
    apply List.eq_nil_of_length_eq_zero
    omega
  rw [hl, List.append_nil] at h4
  exact h4

def POrd (c m : Int) (d : D) (n : Nat) (i : Nat) (γ : Env) : Prop := ∃ (l o : List Nat) (x y : Option D), γ = [some (.int c), some (.int m), some d, some (oL l), some (oL o), x, y] ∧ (o ++ l).Perm (List.range n) ∧ o.length = i
theorem F__law_order_eq (c : Int) (m : Nat) (hm : m < LIM) : ∃ (o : List Nat) (n : Nat), n ≤ m ∧ F__law_order [.int c, nI m] = .ok (oL o) ∧ o.Perm (List.range n) := by
  obtain ⟨d0, g1, g2, g3⟩ := F__law_draw_eq c [(m : Int) + 1] (by
    intro l hl
    simp at hl
    subst hl
    unfold LIM at hm
    omega) (by simp [LIM])
  match d0, g2 with
  | [x], _ =>
  obtain ⟨x1, x2⟩ := g3 0 (by simp)
  simp at x1 x2
  obtain ⟨n, rfl⟩ := Int.eq_ofNat_of_zero_le x1
  have hn : n ≤ LIM := by omega
  have hr := rg1_nat (n := n) (by unfold LIM at hn; omega)
  have hix0 : ixD (.list [.int (n : Int)]) (.int 0) = some (.int n) := ixD_list (ds := [.int (n : Int)]) (i := 0) (by simp)
  have hdv : fdivD (.int c) (.int 5) = some (.int (c / 5)) := fdivD_int (by omega) (by omega)
  simp at hr g1
  obtain ⟨ds, h1, h2, h3⟩ := F__law_draw_eq (c / 5 + 3) _ (sizes_ok hn) (by simpa using hn)
  have h6 : ds.length = n := by simpa using h2
  rw [iL, ← draw_sizes] at h1
  simp [F__law_order, callS_eq, g__law_order, g1, hix0, hr]
  rw [comp1 nI (by simpa using hn) (fun x hx => by simp)]
  simp [hix0, hr, hdv]
  rw [comp1 (fun k : Nat => PyData.int ((n : Int) - k)) (by simpa using hn) (fun x hx => by simp [hix0])]
  simp [h1]
  generalize hf : forS _ _ _ _ = o
  obtain ⟨γ', rfl, l, o, x, y, rfl, h4, h5⟩ := for_all hf (POrd c m (.list [.int (n : Int)]) n) ⟨List.range n, [], _, _, rfl, by simp, rfl⟩ (by
    rintro i hi γ ⟨l, o, x, y, rfl, h4, h5⟩
    have hlen := h4.length_eq
    rw [List.length_append, List.length_range] at hlen
    have hi2 : i < n := by rw [h2] at hi; simpa using hi
    obtain ⟨b1, b2⟩ := h3 i (by simpa using hi2)
    have e1 : ds.getD i 0 = ds[i] := by simp [List.getD_eq_getElem?_getD, hi]
    have e2 : ((List.range n).map fun k : Nat => (n : Int) - k).getD i 0 = (n : Int) - i := by simp [List.getD_eq_getElem?_getD, hi2]
    rw [e1] at b1 b2
    rw [e2] at b2
    obtain ⟨p, hp⟩ := Int.eq_ofNat_of_zero_le b1
    rw [hp] at b2 ⊢
    have hpl : p < l.length := by omega
    have hix := ixD_nat hpl
    have st := perm_step h4 hpl
    generalize hv : l.getD p 0 = v at hix st
    have hoL : o.length < LIM := by unfold LIM at hn ⊢; omega
    have c1 : cutD (l.map nI) none (some (p : Int)) = (l.take p).map nI := by rw [cutD_to, List.map_take]
    have c2 : cutD (l.map nI) (some ((p : Int) + 1)) none = (l.drop (p + 1)).map nI := by
      have := cutD_from (l.map nI) (p + 1)
      rw [List.map_drop]
      simpa using this
    have ca : addD (.list ((l.take p).map nI)) (.list ((l.drop (p + 1)).map nI)) = some (oL (l.take p ++ l.drop (p + 1))) := by
      rw [addD_list (by simp; omega), ← List.map_append]
    refine ⟨_, rfl, ?_⟩
    simp at c1 c2 ca hix ⊢
    simp [hix, hoL, c1, c2, ca]
    exact ⟨l.take p ++ l.drop (p + 1), o ++ [v], some (nI p), y, by simp, by simpa using st, by simp [h5]⟩)
  simp
  refine ⟨o, n, by omega, rfl, ?_⟩
  have hlen := h4.length_eq
  rw [List.length_append, List.length_range] at hlen
  have hl : l = [] := by
    apply List.eq_nil_of_length_eq_zero
    omega
  rw [hl, List.append_nil] at h4
  exact h4
end DL
set_option Elab.async false
set_option linter.all false
set_option maxRecDepth 100000
/-! Plain: orders. -/
namespace DL
open PySem PySem.Spec PyProof.Rows L2

abbrev rgI (n : Nat) : List Int := (List.range n).map fun k : Nat => (k : Int)
theorem rgI_sorted (n : Nat) : (rgI n).Pairwise (· ≤ ·) := by
  unfold rgI
  rw [List.pairwise_map]
  exact (List.pairwise_lt_range (n := n)).imp fun h => by omega
theorem srt_rg {ns : List Int} {n : Nat} : srtI ns = rgI n ↔ ns.Perm (rgI n) := by
  constructor
  · intro h
    rw [← h]
    exact (srtI_perm ns).symm
  · intro h
    exact sorted_uniq ((srtI_perm ns).trans h) (srtI_sorted ns) (rgI_sorted n)
/-- an order -/
def isOrd (ns : List Int) : Bool := decide (srtI ns = rgI ns.length)
theorem isOrd_iff {ns : List Int} : isOrd ns = true ↔ ns.Perm (rgI ns.length) := by
  unfold isOrd
  rw [decide_eq_true_iff, srt_rg]
theorem oL_iL (o : List Nat) : oL o = iL (o.map fun k : Nat => (k : Int)) := by
  unfold oL iL
  rw [List.map_map]
  rfl
theorem map_nI (o : List Nat) : o.map nI = (o.map fun k : Nat => (k : Int)).map PyData.int := by
  rw [List.map_map]
  rfl
theorem castI_inj {a b : List Nat} (h : a.map (fun k : Nat => (k : Int)) = b.map fun k : Nat => (k : Int)) : a = b :=
  (List.map_inj_right fun x y e => by omega).mp h
theorem F_is_order_eq (ns : List Int) (h : ns.length ≤ LIM) : F_is_order [iL ns] = .ok (.bool (isOrd ns)) := by
  have hr := rgL1_nat (n := ns.length) h
  have hs := srtD_int ns
  have he := eqD_ints (srtI ns) (rgI ns.length)
  rw [map_nI] at hr
  unfold iL at hs he
  simp only [F_is_order, callS_eq, g_is_order]
  simp only [iL, sRet, b2, eL, cB, aC, eV, aN, b1, List.map_cons, List.map_nil, List.length_cons, List.length_nil, List.cons_append, List.nil_append, gE_zero, Rs.bind_ok, Rs.map_ok, hs, oR_some, lenD_list, List.length_map, hr, he, liftS_ok, outR_rt]
  rfl
theorem F_check_order_eq (ns : List Int) (h : ns.length ≤ LIM) : F_check_order [iL ns] = if isOrd ns = true then .ok .none else .er "NotOrder" [("label", .str "NotOrder")] := by
  have he := F_is_order_eq ns h
  simp [F_check_order, callS_eq, g_check_order, flD]
  simp at he
  simp [he]
  cases isOrd ns <;> simp
/-! orders of numbers -/
structure IsP (o : List Nat) (n : Nat) : Prop where
  p : o.Perm (List.range n)
theorem IsP.len {o : List Nat} {n : Nat} (h : IsP o n) : o.length = n := by simpa using h.p.length_eq
theorem IsP.nd {o : List Nat} {n : Nat} (h : IsP o n) : o.Nodup := h.p.nodup_iff.mpr List.nodup_range
theorem IsP.mem {o : List Nat} {n : Nat} (h : IsP o n) {k : Nat} : k ∈ o ↔ k < n := by rw [h.p.mem_iff, List.mem_range]
theorem IsP.lt {o : List Nat} {n : Nat} (h : IsP o n) {k : Nat} (hk : k < n) : o.getD k 0 < n := by
  have hk' : k < o.length := by rw [h.len]; exact hk
  rw [List.getD_eq_getElem?_getD, List.getElem?_eq_getElem hk']
  exact h.mem.mp (List.getElem_mem hk')
theorem IsP.ord {o : List Nat} {n : Nat} (h : IsP o n) : isOrd (o.map fun k : Nat => (k : Int)) = true := by
  rw [isOrd_iff, List.length_map, h.len]
  exact h.p.map _
theorem IsP.inj {o : List Nat} {n : Nat} (h : IsP o n) {j k : Nat} (hj : j < n) (hk : k < n) (e : o.getD j 0 = o.getD k 0) : j = k := by
  have hj' : j < o.length := by rw [h.len]; exact hj
  have hk' : k < o.length := by rw [h.len]; exact hk
  rw [List.getD_eq_getElem?_getD, List.getD_eq_getElem?_getD, List.getElem?_eq_getElem hj', List.getElem?_eq_getElem hk'] at e
  simp only [Option.getD_some] at e
  exact (List.getElem?_inj hj' h.nd).mp (by rw [List.getElem?_eq_getElem hj', List.getElem?_eq_getElem hk', e])
/-- the inverse -/
def invO (o : List Nat) : List Nat := (List.range o.length).map fun k => o.idxOf k
theorem invO_len (o : List Nat) : (invO o).length = o.length := by simp [invO]
theorem invO_get {o : List Nat} {k : Nat} (h : k < o.length) : (invO o).getD k 0 = o.idxOf k := by simp [invO, List.getD_eq_getElem?_getD, h]
theorem IsP.idx {o : List Nat} {n : Nat} (h : IsP o n) {k : Nat} (hk : k < n) : o.idxOf k < n := by
  rw [← h.len]
  exact List.idxOf_lt_length_of_mem (h.mem.mpr hk)
theorem IsP.at_idx {o : List Nat} {n : Nat} (h : IsP o n) {k : Nat} (hk : k < n) : o.getD (o.idxOf k) 0 = k := by
  have hm := h.mem.mpr hk
  have hl := List.idxOf_lt_length_of_mem hm
  rw [List.getD_eq_getElem?_getD, List.getElem?_eq_getElem hl]
  simp
theorem IsP.idx_at {o : List Nat} {n : Nat} (h : IsP o n) {k : Nat} (hk : k < n) : o.idxOf (o.getD k 0) = k := h.inj (h.idx (h.lt hk)) hk (h.at_idx (h.lt hk))
theorem ext_getD {a b : List Nat} (hl : a.length = b.length) (h : ∀ k, k < a.length → a.getD k 0 = b.getD k 0) : a = b := by
  apply List.ext_getElem hl
  intro i h1 h2
  have := h i h1
  simpa [List.getD_eq_getElem?_getD, h1, h2] using this
theorem nd_map_range {n : Nat} {f : Nat → Nat} (h : ∀ a b, a < n → b < n → f a = f b → a = b) : ((List.range n).map f).Nodup := by
  rw [List.nodup_iff_pairwise_ne, List.pairwise_map]
  refine List.Pairwise.imp_of_mem ?_ (List.pairwise_lt_range (n := n))
  intro a b ha hb hab e
  have := h a b (List.mem_range.mp ha) (List.mem_range.mp hb) e
  omega
theorem IsP.of {o : List Nat} {n : Nat} (hl : o.length = n) (hb : ∀ k ∈ o, k < n) (hn : o.Nodup) : IsP o n := by
  refine ⟨(List.perm_ext_iff_of_nodup hn List.nodup_range).mpr fun k => ⟨fun h => List.mem_range.mpr (hb k h), fun h => ?_⟩⟩
  rw [List.mem_range] at h
  by_cases hk : k ∈ o
  · exact hk
  · exfalso
    have h2 : (k :: o).Nodup := List.nodup_cons.mpr ⟨hk, hn⟩
    have := h2.length_le_of_subset (l₂ := List.range n) fun z hz => by
      rcases List.mem_cons.mp hz with e | e
      · subst e; exact List.mem_range.mpr h
      · exact List.mem_range.mpr (hb z e)
    simp only [List.length_cons, List.length_range] at this
    omega
theorem IsP.range (n : Nat) : IsP (List.range n) n := ⟨List.Perm.refl _⟩
theorem IsP.inv {o : List Nat} {n : Nat} (h : IsP o n) : IsP (invO o) n := by
  refine .of (by rw [invO_len, h.len]) (fun k hk => ?_) ?_
  · unfold invO at hk
    obtain ⟨j, hj, rfl⟩ := List.mem_map.mp hk
    rw [List.mem_range, h.len] at hj
    exact h.idx hj
  · unfold invO
    refine nd_map_range fun a b ha hb e => ?_
    rw [h.len] at ha hb
    rw [← h.at_idx ha, ← h.at_idx hb, e]
/-! backward, _law_back -/
def PBack (o : List Nat) (i : Nat) (γ : Env) : Prop := ∃ (f : List Nat) (x : Option D), γ = [some (oL o), some (oL f), x] ∧ f.length = o.length ∧ ∀ j, j < i → f.getD (o.getD j 0) 0 = j
theorem getD_set_eq {f : List Nat} {i v : Nat} (h : i < f.length) : (f.set i v).getD i 0 = v := by simp [List.getD_eq_getElem?_getD, h]
theorem getD_set_ne {f : List Nat} {i j v : Nat} (h : i ≠ j) : (f.set i v).getD j 0 = f.getD j 0 := by simp [List.getD_eq_getElem?_getD, List.getElem?_set_ne h]
theorem F_backward_eq {o : List Nat} {n : Nat} (h : IsP o n) (hn : n ≤ LIM) : F_backward [oL o] = .ok (oL (invO o)) := by
  have hr := rg1_nat (n := n) (by unfold LIM at hn; omega)
  have hrep := repD_nat (ds := [PyData.int 0]) (k := n) hn (by simpa using hn)
  rw [rep_one] at hrep
  have hl := h.len
  simp [F_backward, callS_eq, g_backward, hr, hrep, hl]
  generalize hf : forS _ _ _ _ = out
  obtain ⟨γ', rfl, f, x, rfl, h1, h2⟩ := for_rg hf (PBack o) ⟨List.replicate n 0, none, by simp, by simp [hl], fun j hj => absurd hj (Nat.not_lt_zero _)⟩ (by
    rintro i hi γ ⟨f, x, rfl, h1, h2⟩
    have hio : i < o.length := by omega
    have hix := ixD_nat hio
    have hlt := h.lt hi
    have hput := putL_nat (ds := f.map nI) (d := nI i) (i := o.getD i 0) (by rw [List.length_map]; omega)
    have hst : ∀ j, j < i + 1 → (f.set (o.getD i 0) i).getD (o.getD j 0) 0 = j := fun j hj => by
      by_cases e : j = i
      · subst e
        exact getD_set_eq (by omega)
      · rw [getD_set_ne fun z => e (h.inj (by omega) hi z.symm)]
        exact h2 j (by omega)
    generalize o.getD i 0 = v at hix hput hst hlt
    refine ⟨_, rfl, ?_⟩
    simp at hix hput ⊢
    simp [hix, hput]
    exact ⟨f.set v i, some (nI i), by simp [List.map_set], by simp [h1], hst⟩)
  simp
  congr 1
  refine ext_getD (by rw [h1, invO_len]) fun k hk => ?_
  have hkn : k < n := by omega
  rw [invO_get (by omega)]
  have := h2 (o.idxOf k) (h.idx hkn)
  rw [h.at_idx hkn] at this
  exact this
theorem findIdx_idx (o : List Nat) (k : Nat) : (o.map nI).findIdx? (fun z => PyData.eqv z (nI k)) = if k ∈ o then some (o.idxOf k) else none := by
  induction o with
  | nil => rfl
  | cons a r ih =>
    rw [List.map_cons, List.findIdx?_cons, ih]
    by_cases e : a = k
    · subst e
      simp [PyData.eqv]
    · have : PyData.eqv (nI a) (nI k) = false := by simp [PyData.eqv]; omega
      rw [this]
      have e2 : ¬ k = a := fun z => e z.symm
      simp [List.idxOf_cons, e, e2]
      have e3 : (a == k) = false := by simpa using e
      by_cases hk : k ∈ r <;> simp [hk, e3]
theorem idxD_nat {o : List Nat} {k : Nat} (h : k ∈ o) : idxD (oL o) [nI k] = some (nI (o.idxOf k)) := by
  show (if _ then _ else _) = _
  rw [if_pos ⟨(ok_nats 63 o).shaped, (ok_int 64 _).shaped⟩, findIdx_idx, if_pos h]
  rfl
theorem F__law_back_eq {o : List Nat} {n : Nat} (h : IsP o n) (hn : n ≤ LIM) : F__law_back [oL o] = .ok (oL (invO o)) := by
  have hl := h.len
  have hr := rg1_nat (n := n) (by unfold LIM at hn; omega)
  simp [F__law_back, callS_eq, g__law_back, hr, hl]
  rw [comp1 (fun k => nI (o.idxOf k)) (by simpa using hn) (fun x hx => by
    have := idxD_nat (h.mem.mpr (List.mem_range.mp hx))
    simp at this
    simp [this])]
  simp [invO, hl]
theorem F_behind_eq {cs : List D} {o : List Nat} {n : Nat} (hb : ∀ k ∈ o, k < cs.length) (hn : o.length ≤ LIM) : F_behind [.list cs, oL o] = .ok (.list (o.map fun k => cs.getD k .none)) := by
  simp [F_behind, callS_eq, g_behind]
  rw [comp1 (fun k => cs.getD k .none) hn (fun x hx => by
    have := ixD_list (hb x hx)
    simp [this, hb x hx])]
  simp
theorem F__law_then_eq {cs : List D} {o : List Nat} (hb : ∀ k ∈ o, k < cs.length) (hn : o.length ≤ LIM) : F__law_then [.list cs, oL o] = .ok (.list (o.map fun k => cs.getD k .none)) := by
  simp [F__law_then, callS_eq, g__law_then]
  rw [comp1 (fun k => cs.getD k .none) hn (fun x hx => by
    have := ixD_list (hb x hx)
    simp [this, hb x hx])]
  simp
theorem F__law_then_nat {o p : List Nat} (hb : ∀ k ∈ p, k < o.length) (hn : p.length ≤ LIM) : F__law_then [oL o, oL p] = .ok (oL (p.map fun k => o.getD k 0)) := by
  have := F__law_then_eq (cs := o.map nI) (o := p) (fun k hk => by rw [List.length_map]; exact hb k hk) hn
  rw [show oL o = .list (o.map nI) from rfl, this]
  congr 2
  rw [List.map_map]
  apply List.map_congr_left
  intro k hk
  simp [hb k hk]
end DL
set_option Elab.async false
set_option linter.all false
set_option maxRecDepth 100000
/-! Plain: gcd and lcm. -/
namespace DL
open PySem PySem.Spec PyProof.Rows L2

def QGcd (g : Nat) (o : Out) : Prop := ∃ a' b' : Nat, o = .nx [some (nI a'), some (nI b')] ∧ a' = g
def QLGcd (g : Nat) (o : Out) : Prop := ∃ (a' b' : Nat) (x y : Option D), o = .nx [some (nI a'), some (nI b'), x, y] ∧ a' = g
def PGcd (g b0 : Nat) (k : Nat) (γ : Env) : Prop := ∃ a b : Nat, γ = [some (nI a), some (nI b)] ∧ Nat.gcd a b = g ∧ b + k ≤ b0
theorem gcd_mod {a b : Nat} : Nat.gcd b (a % b) = Nat.gcd a b := by
  rw [Nat.gcd_comm a b, Nat.gcd_rec b a, Nat.gcd_comm]
theorem F_gcd_of_eq (a b : Nat) (hb : b ≤ 1000000000000000000000000000000) : F_gcd_of [nI a, nI b] = .ok (nI (Nat.gcd a b)) := by
  simp [F_gcd_of, callS_eq, g_gcd_of]
  generalize hf : whileS _ _ _ _ = o
  have := while_turns hf (PGcd (Nat.gcd a b) b) (QGcd (Nat.gcd a b)) b hb ⟨a, b, rfl, rfl, by omega⟩ (fun k γ ⟨a', b', _, _, h⟩ => by omega) (by
    rintro k γ ⟨a', b', rfl, h1, h2⟩
    by_cases h : 0 < b'
    · left
      have hm : modD (nI a') (nI b') = some (nI (a' % b')) := by
        have := modD_int (i := a') (j := b') (by omega)
        simpa using this
      simp at hm
      simp [h, hm]
      exact ⟨b', a' % b', by simp, by rw [gcd_mod, h1], by have := Nat.mod_lt a' h; omega⟩
    · right
      have h0 : b' = 0 := by omega
      subst h0
      simp
      exact ⟨a', 0, rfl, by simpa using h1⟩)
  obtain ⟨a', b', rfl, rfl⟩ := this
  simp
def PLGcd (g m i : Nat) (γ : Env) : Prop := ∃ (a b : Nat) (x y : Option D), γ = [some (nI a), some (nI b), x, y] ∧ Nat.gcd a b = g ∧ ∃ j, (i = 2 * j ∧ j ≤ m ∧ b < 2 ^ (m - j)) ∨ (i = 2 * j + 1 ∧ j < m ∧ a < 2 ^ (m - j) ∧ b < a)
theorem F__law_gcd_eq (a b : Nat) (hb : b < 2 ^ 200) : F__law_gcd [nI a, nI b] = .ok (nI (Nat.gcd a b)) := by
  have hr := rg1_nat (n := 2000) (by omega)
  simp at hr
  simp [F__law_gcd, callS_eq, g__law_gcd, hr]
  generalize hf : forS _ _ _ _ = o
  have := for_rgT hf (PLGcd (Nat.gcd a b) 200) (QLGcd (Nat.gcd a b)) ⟨a, b, none, none, by simp, rfl, 0, .inl ⟨rfl, by omega, hb⟩⟩ (by
    rintro i hi γ ⟨a', b', x, y, rfl, h1, j, hj⟩
    refine ⟨_, rfl, ?_⟩
    by_cases h : b' = 0
    · subst h
      simp
      exact ⟨a', 0, _, _, rfl, by simpa using h1⟩
    · have hm : modD (nI a') (nI b') = some (nI (a' % b')) := by
        have := modD_int (i := a') (j := b') (by omega)
        simpa using this
      simp at hm
      simp [h, hm]
      refine ⟨b', a' % b', some (nI i), some (nI (a' % b')), by simp, by rw [gcd_mod, h1], ?_⟩
      have hlt := Nat.mod_lt a' (show 0 < b' by omega)
      rcases hj with ⟨e1, e2, e3⟩ | ⟨e1, e2, e3, e4⟩
      · refine ⟨j, .inr ⟨by omega, ?_, e3, hlt⟩⟩
        by_cases hjm : j = 200
        · subst hjm; simp at e3; omega
        · omega
      · refine ⟨j + 1, .inl ⟨by omega, by omega, ?_⟩⟩
        have h3 : a' % b' + b' ≤ a' := by
          have h5 := Nat.div_add_mod a' b'
          have h6 : 1 ≤ a' / b' := (Nat.one_le_div_iff (by omega)).mpr (by omega)
          have h7 : b' * 1 ≤ b' * (a' / b') := Nat.mul_le_mul_left _ h6
          omega
        have h4 : 2 ^ (200 - j) = 2 * 2 ^ (200 - (j + 1)) := by
          rw [show 200 - j = (200 - (j + 1)) + 1 by omega, Nat.pow_succ]
          omega
        omega) (by
    rintro γ ⟨a', b', x, y, rfl, h1, j, hj⟩
    exfalso
    omega)
  obtain ⟨a', b', x, y, rfl, rfl⟩ := this
  simp
theorem gcd_small {a b : Nat} (hb : 0 < b) : 0 < Nat.gcd a b ∧ Nat.gcd a b ≤ b := ⟨Nat.gcd_pos_of_pos_right _ hb, Nat.le_of_dvd hb (Nat.gcd_dvd_right a b)⟩
theorem F_lcm_of_eq (a b : Nat) (h0 : 0 < b) (hb : b < 18446744073709551616) : F_lcm_of [nI a, nI b] = .ok (nI (Nat.lcm a b)) := by
  have hg := F_gcd_of_eq a b (by omega)
  obtain ⟨g1, g2⟩ := gcd_small (a := a) h0
  have hm := mulD_int (i := a) (j := b) (.inr ⟨by omega, by omega⟩)
  have hd := fdivD_int (i := (a : Int) * b) (j := Nat.gcd a b) (by omega) (by omega)
  simp at hg
  simp [F_lcm_of, callS_eq, g_lcm_of, hg, hm, hd]
  simp [Nat.lcm]
end DL
set_option Elab.async false
set_option linter.all false
set_option maxRecDepth 100000
/-! Plain: the cycles of an order. -/
namespace DL
open PySem PySem.Spec PyProof.Rows L2

/-! ### steps of an order -/
def itr (g : List Nat) : Nat → Nat → Nat
  | 0, x => x
  | k + 1, x => g.getD (itr g k x) 0
theorem itr_add (g : List Nat) (j : Nat) : ∀ k x, itr g (k + j) x = itr g k (itr g j x)
  | 0, x => by rw [Nat.zero_add]; rfl
  | k + 1, x => by
    rw [show k + 1 + j = (k + j) + 1 by omega]
    show g.getD (itr g (k + j) x) 0 = g.getD (itr g k (itr g j x)) 0
    rw [itr_add g j k x]
theorem itr_one (g : List Nat) (x : Nat) : itr g 1 x = g.getD x 0 := rfl
theorem itr_succ' (g : List Nat) (k x : Nat) : itr g (k + 1) x = itr g k (g.getD x 0) := by rw [itr_add g 1 k x]; rfl
section
variable {g : List Nat} {n : Nat}
theorem IsP.itr_lt (h : IsP g n) {x : Nat} (hx : x < n) : ∀ k, itr g k x < n
  | 0 => hx
  | k + 1 => h.lt (h.itr_lt hx k)
theorem IsP.itr_inj (h : IsP g n) {x y : Nat} (hx : x < n) (hy : y < n) : ∀ k, itr g k x = itr g k y → x = y
  | 0, e => e
  | k + 1, e => h.itr_inj hx hy k (h.inj (h.itr_lt hx k) (h.itr_lt hy k) e)
theorem least {p : Nat → Prop} (h : ∃ q, p q) : ∃ q, p q ∧ ∀ j, j < q → ¬ p j := by
  obtain ⟨q, hq⟩ := h
  induction q using Nat.strongRecOn with
  | _ q ih =>
    by_cases e : ∃ j, j < q ∧ p j
    · obtain ⟨j, hj, pj⟩ := e
      exact ih j hj pj
    · exact ⟨q, hq, fun j hj pj => e ⟨j, hj, pj⟩⟩
/-- p turns bring x back, fewer do not -/
structure IsPer (g : List Nat) (x p : Nat) : Prop where
  pos : 0 < p
  back : itr g p x = x
  min : ∀ j, 0 < j → j < p → itr g j x ≠ x
theorem IsP.per_ex (h : IsP g n) {x : Nat} (hx : x < n) : ∃ p, IsPer g x p ∧ p ≤ n := by
  have key : ∃ q, 0 < q ∧ q ≤ n ∧ itr g q x = x := by
    refine Classical.byContradiction fun hno => ?_
    have hnd : ((List.range (n + 1)).map fun k => itr g k x).Nodup := nd_map_range fun a b ha hb e => by
      refine Classical.byContradiction fun hab => ?_
      rcases Nat.lt_or_gt_of_ne hab with hl | hl
      · have e2 : itr g (b - a + a) x = itr g a (itr g (b - a) x) := by rw [show b - a + a = a + (b - a) by omega, itr_add g (b - a) a]
        rw [show b - a + a = b by omega, ← e] at e2
        exact hno ⟨b - a, by omega, by omega, (h.itr_inj hx (h.itr_lt hx _) a e2).symm⟩
      · have e2 : itr g (a - b + b) x = itr g b (itr g (a - b) x) := by rw [show a - b + b = b + (a - b) by omega, itr_add g (a - b) b]
        rw [show a - b + b = a by omega, e] at e2
        exact hno ⟨a - b, by omega, by omega, (h.itr_inj hx (h.itr_lt hx _) b e2).symm⟩
    have := hnd.length_le_of_subset (l₂ := List.range n) fun z hz => by
      obtain ⟨k, _, rfl⟩ := List.mem_map.mp hz
      exact List.mem_range.mpr (h.itr_lt hx k)
    simp at this
    omega
  obtain ⟨q, hq, hmin⟩ := least key
  exact ⟨q, ⟨hq.1, hq.2.2, fun j h0 hj e => hmin j hj ⟨h0, by omega, e⟩⟩, hq.2.1⟩
open Classical in
noncomputable def per (g : List Nat) (x : Nat) : Nat := if h : ∃ p, IsPer g x p then Classical.choose h else 1
theorem IsPer.uniq {x p q : Nat} (a : IsPer g x p) (b : IsPer g x q) : p = q := by
  rcases Nat.lt_trichotomy p q with h | h | h
  · exact absurd a.back (b.min p a.pos h)
  · exact h
  · exact absurd b.back (a.min q b.pos h)
theorem IsP.per (h : IsP g n) {x : Nat} (hx : x < n) : IsPer g x (per g x) ∧ DL.per g x ≤ n := by
  obtain ⟨p, hp, hl⟩ := h.per_ex hx
  have hex : ∃ p, IsPer g x p := ⟨p, hp⟩
  have : DL.per g x = Classical.choose hex := dif_pos hex
  rw [this, ← hp.uniq (Classical.choose_spec hex)]
  exact ⟨hp, hl⟩
theorem IsPer.mul {x p : Nat} (a : IsPer g x p) : ∀ m, itr g (m * p) x = x
  | 0 => by rw [Nat.zero_mul]; rfl
  | m + 1 => by rw [Nat.succ_mul, itr_add g p (m * p), a.back, a.mul m]
theorem IsPer.mod {x p : Nat} (a : IsPer g x p) (k : Nat) : itr g (k % p) x = itr g k x := by
  have : itr g k x = itr g (k % p + k / p * p) x := by rw [Nat.mul_comm, Nat.mod_add_div]
  rw [this, itr_add, a.mul]
/-- way back -/
theorem IsPer.ret {x p : Nat} (a : IsPer g x p) (k : Nat) : ∃ m, itr g m (itr g k x) = x := by
  refine ⟨p - k % p, ?_⟩
  rw [← a.mod k, ← itr_add, show p - k % p + k % p = p by have := Nat.mod_lt k a.pos; omega]
  exact a.back
/-- the cycle of x -/
noncomputable def cyc (g : List Nat) (x : Nat) : List Nat := (List.range (per g x)).map fun k => itr g k x
theorem IsP.cyc_nd (h : IsP g n) {x : Nat} (hx : x < n) : (cyc g x).Nodup := nd_map_range fun a b ha hb e => by
  have hp := (h.per hx).1
  refine Classical.byContradiction fun hab => ?_
  rcases Nat.lt_or_gt_of_ne hab with hl | hl
  · have e2 : itr g b x = itr g a (itr g (b - a) x) := by rw [← itr_add, show a + (b - a) = b by omega]
    rw [← e] at e2
    exact hp.min (b - a) (by omega) (by omega) (h.itr_inj hx (h.itr_lt hx _) a e2).symm
  · have e2 : itr g a x = itr g b (itr g (a - b) x) := by rw [← itr_add, show b + (a - b) = a by omega]
    rw [e] at e2
    exact hp.min (a - b) (by omega) (by omega) (h.itr_inj hx (h.itr_lt hx _) b e2).symm
theorem IsP.mem_cyc (h : IsP g n) {x : Nat} (hx : x < n) {y : Nat} : y ∈ cyc g x ↔ ∃ k, itr g k x = y := by
  unfold cyc
  rw [List.mem_map]
  constructor
  · rintro ⟨k, _, e⟩; exact ⟨k, e⟩
  · rintro ⟨k, e⟩
    have hp := (h.per hx).1
    exact ⟨k % DL.per g x, List.mem_range.mpr (Nat.mod_lt _ hp.pos), by rw [hp.mod, e]⟩
open Classical in
noncomputable def cycs (g : List Nat) : Nat → List (List Nat)
  | 0 => []
  | i + 1 => if i ∈ (cycs g i).flatten then cycs g i else cycs g i ++ [cyc g i]
theorem cycs_of {i : Nat} : ∀ {c : List Nat}, c ∈ cycs g i → ∃ z, z < i ∧ c = cyc g z := by
  induction i with
  | zero => intro c h; cases h
  | succ i ih =>
    intro c h
    unfold cycs at h
    split at h
    · obtain ⟨z, hz, e⟩ := ih h
      exact ⟨z, by omega, e⟩
    · rcases List.mem_append.mp h with h | h
      · obtain ⟨z, hz, e⟩ := ih h
        exact ⟨z, by omega, e⟩
      · exact ⟨i, by omega, by simpa using h⟩
theorem IsP.mem_flat (h : IsP g n) {i : Nat} (hi : i ≤ n) : ∀ {y : Nat}, y ∈ (cycs g i).flatten ↔ ∃ z, z < i ∧ ∃ k, itr g k z = y := by
  induction i with
  | zero => intro y; simp [cycs]
  | succ i ih =>
    have ih' : ∀ {y : Nat}, y ∈ (cycs g i).flatten ↔ ∃ z, z < i ∧ ∃ k, itr g k z = y := ih (by omega)
    have hin : i < n := hi
    intro y
    unfold cycs
    by_cases hm : i ∈ (cycs g i).flatten
    · rw [if_pos hm, ih']
      constructor
      · rintro ⟨z, hz, k, e⟩; exact ⟨z, by omega, k, e⟩
      · rintro ⟨z, hz, k, e⟩
        by_cases hzi : z = i
        · subst hzi
          obtain ⟨z', hz', k', e'⟩ := ih'.mp hm
          exact ⟨z', hz', k + k', by rw [itr_add, e', e]⟩
        · exact ⟨z, by omega, k, e⟩
    · rw [if_neg hm, List.flatten_append, List.mem_append, ih']
      simp only [List.flatten_cons, List.flatten_nil, List.append_nil]
      rw [h.mem_cyc hin]
      constructor
      · rintro (⟨z, hz, k, e⟩ | ⟨k, e⟩)
        · exact ⟨z, by omega, k, e⟩
        · exact ⟨i, by omega, k, e⟩
      · rintro ⟨z, hz, k, e⟩
        by_cases hzi : z = i
        · subst hzi; exact .inr ⟨k, e⟩
        · exact .inl ⟨z, by omega, k, e⟩
/-- an orbit that no earlier cycle holds -/
theorem IsP.new (h : IsP g n) {i : Nat} (hi : i < n) (hm : i ∉ (cycs g i).flatten) (k : Nat) : itr g k i ∉ (cycs g i).flatten := fun z => by
  obtain ⟨y, hy, j, e⟩ := (h.mem_flat (Nat.le_of_lt hi)).mp z
  obtain ⟨m, e2⟩ := ((h.per hi).1).ret k
  exact hm ((h.mem_flat (Nat.le_of_lt hi)).mpr ⟨y, hy, m + j, by rw [itr_add, e, e2]⟩)
theorem IsP.old (h : IsP g n) {i : Nat} (hi : i < n) {k : Nat} : itr g k i ∈ (List.range k).map (fun j => itr g j i) → DL.per g i ≤ k := fun z => by
  obtain ⟨j, hj, e⟩ := List.mem_map.mp z
  rw [List.mem_range] at hj
  refine Classical.byContradiction fun hk => ?_
  have e2 : itr g k i = itr g j (itr g (k - j) i) := by rw [← itr_add, show j + (k - j) = k by omega]
  rw [← e] at e2
  exact (h.per hi).1.min (k - j) (by omega) (by omega) (h.itr_inj hi (h.itr_lt hi _) j e2).symm
theorem IsP.hit (h : IsP g n) {i : Nat} (hi : i < n) : itr g (DL.per g i) i ∈ (List.range (DL.per g i)).map (fun j => itr g j i) := by
  have hp := (h.per hi).1
  rw [hp.back]
  exact List.mem_map.mpr ⟨0, List.mem_range.mpr hp.pos, rfl⟩
end
/-! ### cycles_of -/
abbrev bL (l : List Bool) : D := .list (l.map PyData.bool)
abbrev LL (c : List (List Nat)) : D := .list (c.map oL)
def cyk (g : List Nat) (k x : Nat) : List Nat := (List.range k).map fun j => itr g j x
theorem cyk_succ (g : List Nat) (k x : Nat) : cyk g (k + 1) x = cyk g k x ++ [itr g k x] := by simp [cyk, List.range_succ]
def PCO (o g : List Nat) (n i : Nat) (γ : Env) : Prop := ∃ (s : List Bool) (x y : Option D), γ = [some (oL o), some (oL g), some (bL s), some (LL (cycs g i)), x, y] ∧ s.length = n ∧ (cycs g i).length ≤ i ∧ ∀ y, y < n → (s.getD y false = true ↔ y ∈ (cycs g i).flatten)
def PCW (o g : List Nat) (n i : Nat) (k : Nat) (γ : Env) : Prop := ∃ (s : List Bool), γ = [some (oL o), some (oL g), some (bL s), some (LL (cycs g i)), some (nI (itr g k i)), some (oL (cyk g k i))] ∧ s.length = n ∧ (∀ y, y < n → (s.getD y false = true ↔ y ∈ (cycs g i).flatten ∨ y ∈ cyk g k i)) ∧ (i ∈ (cycs g i).flatten → k = 0) ∧ k ≤ per g i
def QCW (o g : List Nat) (n i : Nat) (out : Out) : Prop := ∃ (s : List Bool) (k : Nat), out = .nx [some (oL o), some (oL g), some (bL s), some (LL (cycs g i)), some (nI (itr g k i)), some (oL (cyk g k i))] ∧ s.length = n ∧ (∀ y, y < n → (s.getD y false = true ↔ y ∈ (cycs g i).flatten ∨ y ∈ cyk g k i)) ∧ ((i ∈ (cycs g i).flatten ∧ k = 0) ∨ (i ∉ (cycs g i).flatten ∧ k = per g i))
theorem ixD_bl {s : List Bool} {i : Nat} (h : i < s.length) : ixD (bL s) (nI i) = some (.bool (s.getD i false)) := by
  have := ixD_list (ds := s.map PyData.bool) (i := i) (by simpa using h)
  rw [this]
  simp [h]
theorem getDb_set_eq {f : List Bool} {i : Nat} {v : Bool} (h : i < f.length) : (f.set i v).getD i false = v := by simp [List.getD_eq_getElem?_getD, h]
theorem getDb_set_ne {f : List Bool} {i j : Nat} {v : Bool} (h : i ≠ j) : (f.set i v).getD j false = f.getD j false := by simp [List.getD_eq_getElem?_getD, List.getElem?_set_ne h]
theorem F_cycles_of_eq {o : List Nat} {n : Nat} (h : IsP o n) (hn : n < LIM) : F_cycles_of [oL o] = .ok (LL (cycs (invO o) n)) := by
  have hg := h.inv
  have hb := F_backward_eq h (Nat.le_of_lt hn)
  have hr := rg1_nat (n := n) (by unfold LIM at hn; omega)
  have hrep := repD_nat (ds := [PyData.bool false]) (k := n) (Nat.le_of_lt hn) (by simpa using Nat.le_of_lt hn)
  rw [rep_one] at hrep
  have hl := h.len
  generalize invO o = g at *
  simp at hb hr
  simp [F_cycles_of, callS_eq, g_cycles_of, hb, hrep, hl, hr]
  generalize hf : forS _ _ _ _ = out
  obtain ⟨γ', rfl, s, x, y, rfl, h1, h2, h3⟩ := for_rg hf (PCO o g n) ⟨List.replicate n false, none, none, by simp [cycs], by simp, by simp [cycs], fun y hy => by simp [cycs, List.getD_eq_getElem?_getD, List.getElem?_replicate, hy]⟩ (by
    rintro i hi γ ⟨s, x, y, rfl, h1, h2, h3⟩
    refine ⟨_, rfl, ?_⟩
    simp
    generalize hw : whileS _ _ _ _ = out2
    have hq := while_turns hw (PCW o g n i) (QCW o g n i) n (by unfold LIM at hn; omega) ⟨s, by simp [itr, cyk], h1, fun y hy => by rw [h3 y hy]; show _ ↔ _ ∨ y ∈ []; simp only [List.not_mem_nil, or_false], fun _ => rfl, by omega⟩ (fun k γ ⟨s, _, _, _, _, h5⟩ => by have := (hg.per hi).2; omega) (by
      rintro k γ ⟨s, rfl, h4, h5, h6, h7⟩
      have hlt := hg.itr_lt hi k
      have hix := ixD_bl (s := s) (i := itr g k i) (by omega)
      have hs := h5 _ hlt
      by_cases hin : s.getD (itr g k i) false = true
      · right
        have hs2 := hs.mp hin
        rw [hin] at hix
        simp at hix
        simp [hix]
        refine ⟨s, k, by simp, h4, h5, ?_⟩
        rcases hs2 with z | z
        · by_cases hf : i ∈ (cycs g i).flatten
          · exact .inl ⟨hf, h6 hf⟩
          · exact absurd z (hg.new hi hf k)
        · have h8 := hg.old hi z
          refine .inr ⟨fun hf => ?_, by omega⟩
          have h9 := h6 hf
          subst h9
          have := (hg.per hi).1.pos
          omega
      · left
        have hin2 : s.getD (itr g k i) false = false := by simpa using hin
        rw [hin2] at hix
        have hns := fun z => hin (hs.mpr z)
        have hput := putL_nat (ds := s.map PyData.bool) (d := .bool true) (i := itr g k i) (by rw [List.length_map]; omega)
        have hixg := ixD_nat (ns := g) (i := itr g k i) (by rw [hg.len]; exact hlt)
        have hne : k ≠ DL.per g i := fun e => by
          subst e
          exact hns (.inr (hg.hit hi))
        have hkl : (cyk g k i).length < LIM := by have := (hg.per hi).2; simp [cyk]; omega
        have hnew : ∀ y, y < n → ((s.set (itr g k i) true).getD y false = true ↔ y ∈ (cycs g i).flatten ∨ y ∈ cyk g (k + 1) i) := fun y hy => by
          rw [cyk_succ, List.mem_append, List.mem_singleton]
          by_cases e : itr g k i = y
          · subst e
            rw [getDb_set_eq (by omega)]
            simp
          · rw [getDb_set_ne e, h5 y hy]
            have : ¬ y = itr g k i := fun z => e z.symm
            simp [this]
        have hnf : i ∉ (cycs g i).flatten := fun hf => by
          have := h6 hf
          subst this
          exact hns (.inl hf)
        have hit : g.getD (itr g k i) 0 = itr g (k + 1) i := rfl
        rw [hit] at hixg
        generalize hv : itr g (k + 1) i = v at hixg
        simp at hix hput hixg
        simp [hix, hput, hixg, hkl]
        exact ⟨s.set (itr g k i) true, by rw [hv, cyk_succ]; simp [List.map_set], by simp [h4], hnew, fun hf => absurd hf hnf, by omega⟩)
    obtain ⟨s', k, rfl, h4, h5, h6⟩ := hq
    rcases h6 with ⟨hf, rfl⟩ | ⟨hf, rfl⟩
    · have e0 : cycs g (i + 1) = cycs g i := if_pos hf
      simp [cyk]
      exact ⟨s', some (nI (itr g 0 i)), some (oL []), by rw [e0]; simp [itr], h4, by rw [e0]; omega, fun y hy => by rw [e0, h5 y hy]; show _ ∨ y ∈ [] ↔ _; simp only [List.not_mem_nil, or_false]⟩
    · have hp := (hg.per hi).1.pos
      have hlen : (cyk g (DL.per g i) i).length = DL.per g i := by simp [cyk]
      have hlim : (cycs g i).length < LIM := by omega
      have e1 : cycs g (i + 1) = cycs g i ++ [cyk g (DL.per g i) i] := by
        show (if i ∈ (cycs g i).flatten then cycs g i else cycs g i ++ [cyc g i]) = _
        rw [if_neg hf]
        rfl
      simp [hlen, hp, hlim]
      exact ⟨s', some (nI (itr g (DL.per g i) i)), some (oL (cyk g (DL.per g i) i)), by rw [e1]; simp, h4, by rw [e1]; simp; omega, fun y hy => by rw [e1, List.flatten_append, List.mem_append, h5 y hy]; simp only [List.flatten_cons, List.flatten_nil, List.append_nil]⟩)
  simp
end DL
set_option Elab.async false
set_option linter.all false
set_option maxRecDepth 100000
/-! Plain: the laws' own cycles, periods. -/
namespace DL
open PySem PySem.Spec PyProof.Rows L2

theorem any_nat (l : List Nat) (k : Nat) : ((l.map nI).any fun z => PyData.eqv z (nI k)) = decide (k ∈ l) := by
  induction l with
  | nil => rfl
  | cons a r ih =>
    rw [List.map_cons, List.any_cons, ih]
    have : PyData.eqv (nI a) (nI k) = decide (k = a) := by
      by_cases e : a = k
      · subst e; simp [PyData.eqv]
      · have e2 : ¬ k = a := fun z => e z.symm
        have e3 : ¬ (a : Int) = k := by omega
        simp [PyData.eqv, e2, e3]
    rw [this]
    by_cases h1 : k = a <;> by_cases h2 : k ∈ r <;> simp [h1, h2]
theorem inD_nat (neg : Bool) (l : List Nat) (k : Nat) : inD neg (nI k) (oL l) = some (.bool (neg != decide (k ∈ l))) := by
  show (if _ then _ else _) = _
  rw [if_pos ⟨(ok_int 64 _).shaped, (ok_nats 63 l).shaped⟩, any_nat]
section
variable {g : List Nat} {n : Nat}
theorem IsP.flat_nd (h : IsP g n) : ∀ {i : Nat}, i ≤ n → (cycs g i).flatten.Nodup
  | 0, _ => by simp [cycs]
  | i + 1, hi => by
    have ih := h.flat_nd (i := i) (by omega)
    unfold cycs
    by_cases hm : i ∈ (cycs g i).flatten
    · rw [if_pos hm]; exact ih
    · rw [if_neg hm, List.flatten_append]
      simp only [List.flatten_cons, List.flatten_nil, List.append_nil]
      rw [List.nodup_append]
      refine ⟨ih, h.cyc_nd hi, fun a ha b hb e => ?_⟩
      subst e
      obtain ⟨k, rfl⟩ := (h.mem_cyc (show i < n from hi)).mp hb
      exact h.new hi hm k ha
theorem IsP.flat_lt (h : IsP g n) {i : Nat} (hi : i ≤ n) {y : Nat} (hy : y ∈ (cycs g i).flatten) : y < n := by
  obtain ⟨z, hz, k, rfl⟩ := (h.mem_flat hi).mp hy
  exact h.itr_lt (by omega) k
theorem IsP.flat_len (h : IsP g n) {i : Nat} (hi : i ≤ n) : (cycs g i).flatten.length ≤ n := by
  have := (h.flat_nd hi).length_le_of_subset (l₂ := List.range n) fun y hy => List.mem_range.mpr (h.flat_lt hi hy)
  simpa using this
end
def PLC (o g : List Nat) (i : Nat) (γ : Env) : Prop := ∃ (x y z w : Option D), γ = [some (oL o), some (oL g), some (oL (cycs g i).flatten), some (LL (cycs g i)), x, y, z, w] ∧ (cycs g i).length ≤ i
def PLI (o g : List Nat) (i : Nat) (k : Nat) (γ : Env) : Prop := ∃ (w : Option D), γ = [some (oL o), some (oL g), some (oL (cycs g i).flatten), some (LL (cycs g i)), some (nI i), some (oL (cyk g k i)), some (nI (itr g k i)), w] ∧ k ≤ per g i
def QLI (o g : List Nat) (i : Nat) (out : Out) : Prop := ∃ (z w : Option D), out = .nx [some (oL o), some (oL g), some (oL (cycs g i).flatten), some (LL (cycs g i)), some (nI i), some (oL (cyc g i)), z, w]
theorem F__law_cycles_eq {o : List Nat} {n : Nat} (h : IsP o n) (hn : n + n < LIM) : F__law_cycles [oL o] = .ok (LL (cycs (invO o) n)) := by
  have hg := h.inv
  have hb := F__law_back_eq h (by omega)
  have hr := rg1_nat (n := n) (by unfold LIM at hn; omega)
  have hl := h.len
  generalize invO o = g at *
  simp at hb
  simp [F__law_cycles, callS_eq, g__law_cycles, hb, hl, hr]
  generalize hf : forS _ _ _ _ = out
  obtain ⟨γ', rfl, x, y, z, w, rfl, h2⟩ := for_rg hf (PLC o g) ⟨none, none, none, none, by simp [cycs], by simp [cycs]⟩ (by
    rintro i hi γ ⟨x, y, z, w, rfl, h2⟩
    have hfl := hg.flat_len (Nat.le_of_lt hi)
    refine ⟨_, rfl, ?_⟩
    have hin := inD_nat true (cycs g i).flatten i
    by_cases hm : i ∈ (cycs g i).flatten
    · rw [decide_eq_true hm] at hin
      simp only [nI, oL] at hin
      simp only [oL, nI] 
      simp [hin, -List.mem_flatten, -List.map_flatten]
      have e0 : cycs g (i + 1) = cycs g i := if_pos hm
      exact ⟨some (nI i), y, z, w, by rw [e0], by rw [e0]; omega⟩
    · rw [decide_eq_false hm] at hin
      simp only [nI, oL] at hin
      simp only [oL, nI]
      simp [hin, -List.mem_flatten, -List.map_flatten, hl, hr]
      generalize hw : forS _ _ _ _ = out2
      have hp := (hg.per hi).1
      have hpn := (hg.per hi).2
      obtain ⟨z', w', rfl⟩ : QLI o g i out2 := for_rgT hw (PLI o g i) (QLI o g i) ⟨w, by simp [itr, cyk, -List.map_flatten], by omega⟩ (by
        rintro k hk γ ⟨w, rfl, h7⟩
        refine ⟨_, rfl, ?_⟩
        have hin := inD_nat false (cyk g k i) (itr g k i)
        by_cases hc : itr g k i ∈ cyk g k i
        · have h8 := hg.old hi hc
          have : k = DL.per g i := by omega
          subst this
          rw [decide_eq_true hc] at hin
          simp only [nI, oL] at hin
          simp only [oL, nI]
          simp [hin, -List.map_flatten]
          exact ⟨some (nI (itr g (DL.per g i) i)), some (nI (DL.per g i)), by simp [cyc, cyk, -List.map_flatten]⟩
        · rw [decide_eq_false hc] at hin
          have hne : k ≠ DL.per g i := fun e => by
            subst e
            exact hc (hg.hit hi)
          have hlt := hg.itr_lt hi k
          have hixg := ixD_nat (ns := g) (i := itr g k i) (by rw [hg.len]; exact hlt)
          have hit : g.getD (itr g k i) 0 = itr g (k + 1) i := rfl
          rw [hit] at hixg
          generalize hv : itr g (k + 1) i = v at hixg
          have hkl : (cyk g k i).length < LIM := by simp [cyk]; omega
          simp only [nI, oL] at hin hixg
          simp only [oL, nI]
          simp [hin, hixg, hkl, -List.map_flatten]
          exact ⟨some (nI k), by rw [hv, cyk_succ]; simp [-List.map_flatten], by omega⟩) (by
        rintro γ ⟨w, rfl, h7⟩
        have : DL.per g i = n := by omega
        exact ⟨_, _, by unfold cyc; rw [this]; rfl⟩)
      have hcl : (cyc g i).length ≤ n := by simp [cyc]; omega
      have ha := addD_list (a := (cycs g i).flatten.map nI) (b := (cyc g i).map nI) (by rw [List.length_map, List.length_map]; omega)
      have hlim : (cycs g i).length < LIM := by omega
      have e1 : cycs g (i + 1) = cycs g i ++ [cyc g i] := if_neg hm
      simp only [oL, nI]
      simp [ha, hlim, -List.map_flatten]
      exact ⟨some (nI i), some (oL (cyc g i)), z', w', by rw [e1]; simp [List.flatten_append, -List.map_flatten], by rw [e1]; simp; omega⟩)
  simp
/-! ### periods -/
theorem fold_take {α β : Type} (f : β → α → β) (s : β) {xs : List α} {i : Nat} (h : i < xs.length) : (xs.take (i + 1)).foldl f s = f ((xs.take i).foldl f s) xs[i] := by
  rw [List.take_succ_eq_append_getElem h, List.foldl_append]
  rfl
def lcmL (p : Nat) (c : List Nat) : Nat := Nat.lcm p c.length
noncomputable def prd (g : List Nat) (n : Nat) : Nat := (cycs g n).foldl lcmL 1
theorem fold_lcm (cs : List (List Nat)) : ∀ p : Nat, p ∣ cs.foldl lcmL p ∧ (∀ c ∈ cs, c.length ∣ cs.foldl lcmL p) := by
  induction cs with
  | nil => intro p; exact ⟨Nat.dvd_refl _, fun c h => by cases h⟩
  | cons a r ih =>
    intro p
    obtain ⟨h1, h2⟩ := ih (lcmL p a)
    refine ⟨Nat.dvd_trans (Nat.dvd_lcm_left p a.length) h1, fun c hc => ?_⟩
    rcases List.mem_cons.mp hc with e | e
    · subst e
      exact Nat.dvd_trans (Nat.dvd_lcm_right p c.length) h1
    · exact h2 c e
theorem fold_lcm_pos (cs : List (List Nat)) (hc : ∀ c ∈ cs, 0 < c.length) : ∀ p : Nat, 0 < p → 0 < cs.foldl lcmL p := by
  induction cs with
  | nil => intro p hp; exact hp
  | cons a r ih =>
    intro p hp
    exact ih (fun c h => hc c (List.mem_cons_of_mem _ h)) _ (Nat.lcm_pos hp (hc a List.mem_cons_self))
theorem fold_lcm_le (m : Nat) (hm : 1 ≤ m) (cs : List (List Nat)) (hc : ∀ c ∈ cs, c.length ≤ m) : ∀ p : Nat, cs.foldl lcmL p ≤ p * m ^ cs.length := by
  induction cs with
  | nil => intro p; simp
  | cons a r ih =>
    intro p
    have h1 := ih (fun c h => hc c (List.mem_cons_of_mem _ h)) (lcmL p a)
    have h2 : lcmL p a ≤ p * m := by
      refine Nat.le_trans ?_ (Nat.mul_le_mul_left p (hc a List.mem_cons_self))
      exact Nat.div_le_self _ _
    have h3 := Nat.mul_le_mul_right (m ^ r.length) h2
    rw [List.foldl_cons, List.length_cons, Nat.pow_succ, Nat.mul_comm (m ^ r.length) m, ← Nat.mul_assoc]
    exact Nat.le_trans h1 h3
section
variable {g : List Nat} {n : Nat}
theorem IsP.cyc_len (h : IsP g n) {c : List Nat} (hc : c ∈ cycs g n) : 0 < c.length ∧ c.length ≤ n := by
  obtain ⟨z, hz, rfl⟩ := cycs_of hc
  obtain ⟨h1, h2⟩ := h.per hz
  have := h1.pos
  simp only [cyc, List.length_map, List.length_range]
  omega
theorem cycs_len (g : List Nat) : ∀ i, (cycs g i).length ≤ i
  | 0 => by simp [cycs]
  | i + 1 => by
    have := cycs_len g i
    unfold cycs
    split
    · omega
    · rw [List.length_append, List.length_singleton]; omega
theorem IsP.prd_pos (h : IsP g n) : 0 < prd g n := fold_lcm_pos _ (fun c hc => (h.cyc_len hc).1) 1 (by omega)
theorem IsP.prd_le (h : IsP g n) (hn : 1 ≤ n) : prd g n ≤ n ^ n := by
  have h1 := fold_lcm_le n hn (cycs g n) (fun c hc => (h.cyc_len hc).2) 1
  rw [Nat.one_mul] at h1
  exact Nat.le_trans h1 (Nat.pow_le_pow_right hn (cycs_len g n))
theorem IsP.per_prd (h : IsP g n) {x : Nat} (hx : x < n) : DL.per g x ∣ prd g n := by
  have hm : x ∈ (cycs g n).flatten := (h.mem_flat (Nat.le_refl n)).mpr ⟨x, hx, 0, rfl⟩
  obtain ⟨c, hc, hxc⟩ := List.mem_flatten.mp hm
  obtain ⟨z, hz, rfl⟩ := cycs_of hc
  obtain ⟨k, hk⟩ := (h.mem_cyc hz).mp hxc
  have e : DL.per g x = DL.per g z := by
    have pz := (h.per hz).1
    have px := (h.per hx).1
    refine px.uniq ⟨pz.pos, ?_, fun j h0 hj e => ?_⟩
    · rw [← hk, ← itr_add, Nat.add_comm, itr_add, pz.back]
    · rw [← hk, ← itr_add, Nat.add_comm, itr_add] at e
      exact pz.min j h0 hj (h.itr_inj (h.itr_lt hz _) hz k e)
  rw [e]
  have := (fold_lcm (cycs g n) 1).2 _ hc
  rwa [show (cyc g z).length = DL.per g z by simp [cyc]] at this
theorem IsP.itr_prd (h : IsP g n) {x : Nat} (hx : x < n) (k : Nat) : itr g (k % prd g n) x = itr g k x := by
  have hp := (h.per hx).1
  rw [← hp.mod (k % prd g n), Nat.mod_mod_of_dvd _ (h.per_prd hx), hp.mod]
end
def PPer (o : List Nat) (cs : List (List Nat)) (i : Nat) (γ : Env) : Prop := ∃ x : Option D, γ = [some (oL o), some (nI ((cs.take i).foldl lcmL 1)), x]
theorem F_period_of_eq {o : List Nat} {n : Nat} (h : IsP o n) (hn : n < LIM) : F_period_of [oL o] = .ok (nI (prd (invO o) n)) := by
  have hc := F_cycles_of_eq h hn
  have hg := h.inv
  unfold prd
  have hcl : ∀ c ∈ cycs (invO o) n, 0 < c.length ∧ c.length ≤ n := fun c h => hg.cyc_len h
  generalize cycs (invO o) n = cs at *
  simp only [oL, LL] at hc
  simp [F_period_of, callS_eq, g_period_of, hc]
  generalize hf : forS _ _ _ _ = out
  obtain ⟨γ', rfl, x, rfl⟩ := for_all hf (PPer o cs) ⟨none, by simp⟩ (by
    rintro i hi γ ⟨x, rfl⟩
    refine ⟨_, rfl, ?_⟩
    have l1 := (hcl cs[i] (List.getElem_mem hi)).1
    have l2 := (hcl cs[i] (List.getElem_mem hi)).2
    have hl := F_lcm_of_eq ((cs.take i).foldl lcmL 1) cs[i].length l1 (by unfold LIM at hn; omega)
    simp only [nI] at hl
    simp [hl]
    exact ⟨some (oL cs[i]), by rw [fold_take _ _ hi]; simp [lcmL]⟩)
  simp
def PLPer (o : List Nat) (cs : List (List Nat)) (i : Nat) (γ : Env) : Prop := ∃ x : Option D, γ = [some (oL o), some (nI ((cs.take i).foldl lcmL 1)), x]
theorem F__law_period_eq {o : List Nat} {n : Nat} (h : IsP o n) (hn : n + n < LIM) : F__law_period [oL o] = .ok (nI (prd (invO o) n)) := by
  have hc := F__law_cycles_eq h hn
  have hg := h.inv
  unfold prd
  have hcl : ∀ c ∈ cycs (invO o) n, 0 < c.length ∧ c.length ≤ n := fun c h => hg.cyc_len h
  generalize cycs (invO o) n = cs at *
  simp only [oL, LL] at hc
  simp [F__law_period, callS_eq, g__law_period, hc]
  generalize hf : forS _ _ _ _ = out
  obtain ⟨γ', rfl, x, rfl⟩ := for_all hf (PLPer o cs) ⟨none, by simp⟩ (by
    rintro i hi γ ⟨x, rfl⟩
    refine ⟨_, rfl, ?_⟩
    have l1 := (hcl cs[i] (List.getElem_mem hi)).1
    have l2 := (hcl cs[i] (List.getElem_mem hi)).2
    have e : nI ((cs.take (i + 1)).foldl lcmL 1) = .int (((cs.take i).foldl lcmL 1 : Nat) / (Nat.gcd ((cs.take i).foldl lcmL 1) cs[i].length : Nat) * (cs[i].length : Nat)) := by
      rw [fold_take _ _ hi, lcmL, Nat.lcm, ← Nat.div_mul_right_comm (Nat.gcd_dvd_left _ _)]
      simp
    have hl := F__law_gcd_eq ((cs.take i).foldl lcmL 1) cs[i].length (by
      have h1 : cs[i].length < 18446744073709551616 := by unfold LIM at hn; omega
      exact Nat.lt_of_lt_of_le h1 (by decide +kernel))
    obtain ⟨g1, g2⟩ := gcd_small (a := (cs.take i).foldl lcmL 1) l1
    generalize (cs.take i).foldl lcmL 1 = p at *
    have hd := fdivD_int (i := p) (j := (Nat.gcd p cs[i].length : Nat)) (by omega) (by unfold LIM at hn; omega)
    have hm := mulD_int (i := (p : Int) / (Nat.gcd p cs[i].length : Nat)) (j := cs[i].length) (.inr ⟨by omega, by unfold LIM at hn; omega⟩)
    generalize Nat.gcd p cs[i].length = q at *
    simp only [nI] at hl
    simp [hl, hd, hm]
    exact ⟨some (oL cs[i]), by rw [e]⟩)
  simp
end DL
set_option Elab.async false
set_option linter.all false
set_option maxRecDepth 100000
/-! Plain: the keys of a dict made of a list. -/
namespace DL
open PySem PySem.Spec PyProof.Rows L2

/-- the keys in the order in which they are met -/
def keysOf {α : Type} [DecidableEq α] : List α → List α → List α
  | acc, [] => acc
  | acc, x :: xs => keysOf (if x ∈ acc then acc else acc ++ [x]) xs
theorem keysOf_in {α : Type} [DecidableEq α] {x : α} {acc xs : List α} (h : x ∈ acc) : keysOf acc (x :: xs) = keysOf acc xs := by
  show keysOf (if x ∈ acc then acc else acc ++ [x]) xs = _
  rw [if_pos h]
theorem keysOf_out {α : Type} [DecidableEq α] {x : α} {acc xs : List α} (h : x ∉ acc) : keysOf acc (x :: xs) = keysOf (acc ++ [x]) xs := by
  show keysOf (if x ∈ acc then acc else acc ++ [x]) xs = _
  rw [if_neg h]
theorem keysOf_mem {α : Type} [DecidableEq α] {y : α} : ∀ {acc xs : List α}, y ∈ keysOf acc xs ↔ y ∈ acc ∨ y ∈ xs
  | acc, [] => by simp [keysOf]
  | acc, x :: xs => by
    unfold keysOf
    rw [keysOf_mem]
    split
    · rename_i h
      rw [List.mem_cons]
      constructor
      · rintro (z | z)
        · exact .inl z
        · exact .inr (.inr z)
      · rintro (z | z | z)
        · exact .inl z
        · subst z; exact .inl h
        · exact .inr z
    · rw [List.mem_append, List.mem_singleton, List.mem_cons, or_assoc]
theorem keysOf_nd {α : Type} [DecidableEq α] : ∀ {acc xs : List α}, acc.Nodup → (keysOf acc xs).Nodup
  | acc, [], h => h
  | acc, x :: xs, h => by
    unfold keysOf
    refine keysOf_nd ?_
    split
    · exact h
    · rename_i hx
      rw [List.nodup_append]
      refine ⟨h, by simp, fun a ha b hb e => ?_⟩
      rw [List.mem_singleton] at hb
      subst hb
      subst e
      exact hx ha
theorem keysOf_len {α : Type} [DecidableEq α] : ∀ {acc xs : List α}, (keysOf acc xs).length ≤ acc.length + xs.length
  | acc, [] => by simp [keysOf]
  | acc, x :: xs => by
    unfold keysOf
    have := keysOf_len (acc := if x ∈ acc then acc else acc ++ [x]) (xs := xs)
    refine Nat.le_trans this ?_
    split <;> simp <;> omega
theorem put_keys_in {acc : List (Key × D)} {k : Key} {d : D} (h : k ∈ acc.map (·.1)) : (putKD acc k d).map (·.1) = acc.map (·.1) := by
  have : (acc.any fun kv => decide (kv.1 = k)) = true := by
    obtain ⟨p, hp, e⟩ := List.mem_map.mp h
    exact List.any_eq_true.mpr ⟨p, hp, decide_eq_true e⟩
  unfold putKD
  rw [if_pos this, List.map_map]
  apply List.map_congr_left
  intro p _
  dsimp only [Function.comp]
  split
  · rename_i e; exact e.symm ▸ rfl
  · rfl
theorem put_keys_out {acc : List (Key × D)} {k : Key} {d : D} (h : k ∉ acc.map (·.1)) : (putKD acc k d).map (·.1) = acc.map (·.1) ++ [k] := by
  have : ¬ (acc.any fun kv => decide (kv.1 = k)) = true := fun z => by
    obtain ⟨p, hp, e⟩ := List.any_eq_true.mp z
    exact h (List.mem_map.mpr ⟨p, hp, of_decide_eq_true e⟩)
  unfold putKD
  rw [if_neg this, List.map_append]
  rfl
theorem put_len (acc : List (Key × D)) (k : Key) (d : D) : (putKD acc k d).length ≤ acc.length + 1 := by
  unfold putKD
  split
  · rw [List.length_map]; omega
  · rw [List.length_append]; simp
/-- {f(x): v for x in xs}: its keys -/
theorem compDA_keys {α : Type} {i : Nat} {fk fv : Env → Rs D} {γ : Env} {g : α → D} (kf : α → Key) (z : α → D) : ∀ {xs : List α} {acc : List (Key × D)}, acc.length + xs.length ≤ LIM →
    (∀ x ∈ xs, fk (γ.set i (some (g x))) = .ok (kD (kf x)) ∧ fv (γ.set i (some (g x))) = .ok (z x)) →
    ∃ es, compDA (tgN i) tsYes fk fv (xs.map g) γ acc = .ok es ∧ es.map (·.1) = keysOf (acc.map (·.1)) (xs.map kf)
  | [], acc, _, _ => ⟨acc, rfl, rfl⟩
  | x :: xs, acc, hl, h => by
    obtain ⟨h1, h2⟩ := h x List.mem_cons_self
    have hlen := put_len acc (kf x) (z x)
    have ko : keyO (kD (kf x)) = some (kf x) := by cases kf x <;> rfl
    rw [List.length_cons] at hl
    obtain ⟨es, e1, e2⟩ := compDA_keys (g := g) kf z (xs := xs) (acc := putKD acc (kf x) (z x)) (by omega) fun y hy => h y (List.mem_cons_of_mem _ hy)
    refine ⟨es, ?_, ?_⟩
    · rw [List.map_cons]
      unfold compDA
      dsimp only [tgN]
      rw [tsYes_eq, noEr_ok, Rs.bind_ok, if_pos rfl, h1, noEr_ok, Rs.bind_ok, h2, noEr_ok, Rs.bind_ok, ko]
      dsimp only
      rw [if_pos (by omega)]
      exact e1
    · rw [e2, List.map_cons]
      by_cases hm : kf x ∈ acc.map (·.1)
      · rw [put_keys_in hm, keysOf_in hm]
      · rw [put_keys_out hm, keysOf_out hm]
theorem isRol_dic (es : List (Key × D)) : isRol (es.map fun q => (kD q.1, q.2)) = false := by
  match es with
  | [] => rfl
  | [(k, d)] => cases k <;> rfl
  | (k, d) :: b :: r => cases k <;> rfl
theorem lenD_dic (es : List (Key × D)) : lenD [dicD es] = some (.int (es.length : Nat)) := by
  have h := isRol_dic es
  unfold dicD
  match es, h with
  | [], _ => rfl
  | [(k, d)], h => cases k <;> rfl
  | (k, d) :: b :: r, h => cases k <;> (simp [lenD, isRol])
/-- len({f(x): v for x in xs}) -/
theorem compDR_len {α : Type} {i : Nat} {fk fv : Env → Rs D} {γ : Env} {xs : List α} {g : α → D} (kf : α → Key) (z : α → D) (hl : xs.length ≤ LIM) (h : ∀ x ∈ xs, fk ((γ.set i none).set i (some (g x))) = .ok (kD (kf x)) ∧ fv ((γ.set i none).set i (some (g x))) = .ok (z x)) :
    ∃ es, compDR [i] (tgN i) tsYes fk fv (xs.map g) γ = .ok (dicD es) ∧ es.length = (keysOf [] (xs.map kf)).length := by
  obtain ⟨es, e1, e2⟩ := compDA_keys (i := i) (γ := γ.set i none) (g := g) kf z (xs := xs) (acc := []) (by simpa using hl) h
  refine ⟨es, ?_, by rw [← List.length_map (f := (·.1)), e2]; rfl⟩
  unfold compDR
  rw [show wipeE γ [i] = γ.set i none from rfl, e1]
end DL
set_option Elab.async false
set_option linter.all false
set_option maxRecDepth 100000
set_option maxHeartbeats 1000000
/-! Encodings: typed values as data, and how the machine works on them. -/
namespace DL
open PySem PySem.Spec PyProof.Rows L2

class PE (α : Type) where
  enc : α → D
  dep : Nat
  dflt : α
  ok : ∀ a, Ok dep (enc a)
  eqv : ∀ a b, PyData.eqv (enc a) (enc b) = true ↔ a = b
def E {α : Type} [PE α] (a : α) : D := PE.enc a
def Ls {α : Type} [PE α] (xs : List α) : List D := xs.map E
def L {α : Type} [PE α] (xs : List α) : D := .list (Ls xs)
theorem Ls_def {α : Type} [PE α] (xs : List α) : Ls xs = xs.map E := rfl
theorem L_def {α : Type} [PE α] (xs : List α) : L xs = .list (xs.map E) := rfl
/-- a tuple of any length -/
structure Tp (α : Type) where
  l : List α
deriving DecidableEq

theorem eqv_map {α : Type} [PE α] : ∀ (a b : List α), PyData.eqvAll (a.map PE.enc) (b.map PE.enc) = true ↔ a = b
  | [], [] => by simp [PyData.eqvAll]
  | [], _ :: _ => by simp [PyData.eqvAll]
  | _ :: _, [] => by simp [PyData.eqvAll]
  | x :: a, y :: b => by
    have h1 := eqv_map a b
    have h2 := PE.eqv x y
    simp [PyData.eqvAll, h1, h2]
theorem ok_maps {α : Type} [PE α] (a : List α) : ∀ d ∈ a.map (PE.enc : α → D), Ok (PE.dep α) d := fun d hd => by
  obtain ⟨x, _, rfl⟩ := List.mem_map.mp hd
  exact PE.ok x
instance : PE Int := ⟨.int, 0, 0, fun _ => ok_int _ _, fun a b => by simp [PyData.eqv]⟩
instance : PE Nat := ⟨fun n => .int (n : Int), 0, 0, fun _ => ok_int _ _, fun a b => by simp [PyData.eqv]; omega⟩
instance : PE Bool := ⟨.bool, 0, false, fun _ => ok_bool _ _, fun a b => by simp [PyData.eqv]⟩
instance {α : Type} [PE α] : PE (List α) := ⟨fun xs => .list (xs.map PE.enc), PE.dep α + 1, [], fun a => ok_list (ok_maps a), fun a b => by
  show PyData.eqv _ _ = true ↔ _
  unfold PyData.eqv
  exact eqv_map a b⟩
instance {α : Type} [PE α] : PE (Tp α) := ⟨fun xs => .tuple (xs.l.map PE.enc), PE.dep α + 1, ⟨[]⟩, fun a => ok_tuple_iff.mpr (ok_maps a.l), fun a b => by
  show PyData.eqv _ _ = true ↔ _
  unfold PyData.eqv
  rw [eqv_map a.l b.l]
  cases a; cases b; simp⟩
instance {α β : Type} [PE α] [PE β] : PE (α × β) := ⟨fun p => .tuple [PE.enc p.1, PE.enc p.2], max (PE.dep α) (PE.dep β) + 1, (PE.dflt, PE.dflt), fun a => ok_tuple_iff.mpr fun d hd => by
  simp only [List.mem_cons, List.not_mem_nil, or_false] at hd
  rcases hd with rfl | rfl
  · exact (PE.ok a.1).mono (Nat.le_max_left _ _)
  · exact (PE.ok a.2).mono (Nat.le_max_right _ _), fun a b => by
  have h1 := PE.eqv a.1 b.1
  have h2 := PE.eqv a.2 b.2
  show PyData.eqv _ _ = true ↔ _
  simp [PyData.eqv, PyData.eqvAll, h1, h2, Prod.ext_iff]⟩
/-- never None -/
class PN (α : Type) [PE α] : Prop where
  nn : ∀ a : α, PyData.eqv .none (PE.enc a) = false ∧ PyData.eqv (PE.enc a) .none = false
instance : PN Int := ⟨fun a => ⟨rfl, rfl⟩⟩
instance : PN Nat := ⟨fun a => ⟨rfl, rfl⟩⟩
instance : PN Bool := ⟨fun a => ⟨rfl, rfl⟩⟩
instance {α : Type} [PE α] : PN (List α) := ⟨fun a => ⟨rfl, rfl⟩⟩
instance {α : Type} [PE α] : PN (Tp α) := ⟨fun a => ⟨rfl, rfl⟩⟩
instance {α β : Type} [PE α] [PE β] : PN (α × β) := ⟨fun a => ⟨rfl, rfl⟩⟩
def encO {α : Type} [PE α] : Option α → D
  | none => .none
  | some a => PE.enc a
instance {α : Type} [PE α] [PN α] : PE (Option α) := ⟨encO, PE.dep α, none, fun a => by
  cases a with
  | none => exact ok_none _
  | some a => exact PE.ok a, fun a b => by
  cases a with
  | none => cases b with
    | none => simp [encO, PyData.eqv]
    | some b => simp [encO, (PN.nn b).1]
  | some a => cases b with
    | none => simp [encO, (PN.nn a).2]
    | some b => simp [encO, PE.eqv]⟩

/-! ### normal forms -/
section
variable {α β : Type} [PE α] [PE β]
@[simp] theorem E_int (i : Int) : E i = .int i := Eq.trans (Eq.refl _) rfl
@[simp] theorem E_nat (i : Nat) : E i = .int (i : Int) := Eq.trans (Eq.refl _) rfl
@[simp] theorem E_bool (i : Bool) : E i = .bool i := Eq.trans (Eq.refl _) rfl
@[simp] theorem E_list (xs : List α) : E xs = L xs := Eq.trans (Eq.refl _) rfl
@[simp] theorem E_tp (xs : List α) : E (⟨xs⟩ : Tp α) = .tuple (Ls xs) := Eq.trans (Eq.refl _) rfl
@[simp] theorem E_pair (a : α) (b : β) : E (a, b) = .tuple [E a, E b] := Eq.trans (Eq.refl _) rfl
@[simp] theorem E_none [PN α] : E (none : Option α) = .none := Eq.trans (Eq.refl _) rfl
@[simp] theorem E_some [PN α] (a : α) : E (some a) = E a := Eq.trans (Eq.refl _) rfl
theorem E_pair' (p : α × β) : E p = .tuple [E p.1, E p.2] := Eq.trans (Eq.refl _) rfl
@[simp] theorem list_Ls (xs : List α) : PyData.list (Ls xs) = L xs := Eq.trans (Eq.refl _) rfl
@[simp] theorem Ls_nil : Ls ([] : List α) = [] := Eq.trans (Eq.refl _) rfl
@[simp] theorem L_nil : L ([] : List α) = .list [] := Eq.trans (Eq.refl _) rfl
@[simp] theorem Ls_length (xs : List α) : (Ls xs).length = xs.length := by simp [Ls]
@[simp] theorem Ls_append (xs ys : List α) : Ls xs ++ Ls ys = Ls (xs ++ ys) := by simp [Ls]
theorem Ls_snoc (xs : List α) (a : α) : Ls xs ++ [E a] = Ls (xs ++ [a]) := by simp [Ls]
@[simp] theorem Ls_snoc_int (xs : List Int) (a : Int) : Ls xs ++ [.int a] = Ls (xs ++ [a]) := Ls_snoc _ _
@[simp] theorem Ls_snoc_nat (xs : List Nat) (a : Nat) : Ls xs ++ [.int (a : Int)] = Ls (xs ++ [a]) := Ls_snoc _ _
@[simp] theorem Ls_snoc_bool (xs : List Bool) (a : Bool) : Ls xs ++ [.bool a] = Ls (xs ++ [a]) := Ls_snoc _ _
@[simp] theorem Ls_snoc_list (xs : List (List α)) (a : List α) : Ls xs ++ [L a] = Ls (xs ++ [a]) := Ls_snoc _ _
@[simp] theorem Ls_snoc_nil (xs : List (List α)) : Ls xs ++ [.list []] = Ls (xs ++ [([] : List α)]) := Ls_snoc xs ([] : List α)
@[simp] theorem Ls_snoc_tp (xs : List (Tp α)) (a : List α) : Ls xs ++ [.tuple (Ls a)] = Ls (xs ++ [⟨a⟩]) := Ls_snoc _ _
@[simp] theorem list1_int (a : Int) : PyData.list [.int a] = L [a] := Eq.trans (Eq.refl _) rfl
@[simp] theorem list2_int (a b : Int) : PyData.list [.int a, .int b] = L [a, b] := Eq.trans (Eq.refl _) rfl
@[simp] theorem list3_int (a b c : Int) : PyData.list [.int a, .int b, .int c] = L [a, b, c] := Eq.trans (Eq.refl _) rfl
@[simp] theorem list4_int (a b c d : Int) : PyData.list [.int a, .int b, .int c, .int d] = L [a, b, c, d] := Eq.trans (Eq.refl _) rfl
@[simp] theorem list5_int (a b c d e : Int) : PyData.list [.int a, .int b, .int c, .int d, .int e] = L [a, b, c, d, e] := Eq.trans (Eq.refl _) rfl
@[simp] theorem list6_int (a b c d e f : Int) : PyData.list [.int a, .int b, .int c, .int d, .int e, .int f] = L [a, b, c, d, e, f] := Eq.trans (Eq.refl _) rfl
@[simp] theorem list1_bool (a : Bool) : PyData.list [.bool a] = L [a] := Eq.trans (Eq.refl _) rfl
@[simp] theorem list1_list (a : List α) : PyData.list [L a] = L [a] := Eq.trans (Eq.refl _) rfl
theorem list_nil_eq : PyData.list [] = L ([] : List α) := rfl

/-! ### equality -/
variable (α) in
@[simp] theorem dep_list : PE.dep (List α) = PE.dep α + 1 := rfl
variable (α) in
@[simp] theorem dep_tp : PE.dep (Tp α) = PE.dep α + 1 := rfl
variable (α β) in
@[simp] theorem dep_prod : PE.dep (α × β) = max (PE.dep α) (PE.dep β) + 1 := rfl
variable (α) in
@[simp] theorem dep_opt [PN α] : PE.dep (Option α) = PE.dep α := rfl
@[simp] theorem dep_int : PE.dep Int = 0 := rfl
@[simp] theorem dep_nat : PE.dep Nat = 0 := rfl
@[simp] theorem dep_bool : PE.dep Bool = 0 := rfl
@[simp] theorem ok_L {k : Nat} (xs : List α) (h : PE.dep α + 1 ≤ k) : Ok k (L xs) := (PE.ok xs).mono h
@[simp] theorem ok_Ls {k : Nat} (xs : List α) (h : PE.dep α + 1 ≤ k) : Ok k (.tuple (Ls xs)) := (PE.ok (⟨xs⟩ : Tp α)).mono h
theorem ok_E {k : Nat} (x : α) (h : PE.dep α ≤ k) : Ok k (E x) := (PE.ok x).mono h
@[simp] theorem ok_nil {k : Nat} (h : 1 ≤ k) : Ok k (.list []) := (PE.ok ([] : List Int)).mono h
theorem eqv_E [DecidableEq α] (a b : α) : PyData.eqv (E a) (E b) = decide (a = b) := by
  rw [Bool.eq_iff_iff, decide_eq_true_iff]
  exact PE.eqv a b
@[simp] theorem eqv_L [DecidableEq α] (a b : List α) : PyData.eqv (L a) (L b) = decide (a = b) := eqv_E a b
@[simp] theorem eqv_Ls [DecidableEq α] (a b : List α) : PyData.eqv (.tuple (Ls a)) (.tuple (Ls b)) = decide (a = b) := by
  have := eqv_E (⟨a⟩ : Tp α) ⟨b⟩
  rw [E_tp, E_tp] at this
  rw [this]
  simp
@[simp] theorem eqv_L_nil [DecidableEq α] (a : List α) : PyData.eqv (L a) (.list []) = decide (a = []) := eqv_L a []
@[simp] theorem eqv_nil_L [DecidableEq α] (a : List α) : PyData.eqv (.list []) (L a) = decide (a = []) := by
  rw [show PyData.list [] = L ([] : List α) from rfl, eqv_L]
  simp [eq_comm]
@[simp] theorem eqv_int (a b : Int) : PyData.eqv (.int a) (.int b) = decide (a = b) := eqv_E a b
@[simp] theorem eqv_bool (a b : Bool) : PyData.eqv (.bool a) (.bool b) = decide (a = b) := eqv_E a b
@[simp] theorem eqv_str (a b : Str) : PyData.eqv (.str a) (.str b) = decide (a = b) := by
  unfold PyData.eqv
  exact Bool.eq_iff_iff.mpr (by simp)
@[simp] theorem eqv_none : PyData.eqv .none .none = true := rfl
@[simp] theorem eqv_none_int (a : Int) : PyData.eqv .none (.int a) = false := rfl
@[simp] theorem eqv_int_none (a : Int) : PyData.eqv (.int a) .none = false := rfl
@[simp] theorem eqv_none_L (a : List α) : PyData.eqv .none (L a) = false := rfl
@[simp] theorem eqv_L_none (a : List α) : PyData.eqv (L a) .none = false := rfl
@[simp] theorem eqv_none_tuple (a : List D) : PyData.eqv .none (.tuple a) = false := rfl
@[simp] theorem eqv_tuple_none (a : List D) : PyData.eqv (.tuple a) .none = false := rfl
@[simp] theorem eqv_L_int (a : List α) (i : Int) : PyData.eqv (L a) (.int i) = false := rfl
@[simp] theorem eqv_int_L (a : List α) (i : Int) : PyData.eqv (.int i) (L a) = false := rfl
@[simp] theorem eqv_tuple (a b : List D) : PyData.eqv (.tuple a) (.tuple b) = PyData.eqvAll a b := by
  conv => lhs; unfold PyData.eqv
@[simp] theorem eqvAll_nil : PyData.eqvAll [] [] = true := rfl
@[simp] theorem eqvAll_cons (x y : D) (a b : List D) : PyData.eqvAll (x :: a) (y :: b) = (PyData.eqv x y && PyData.eqvAll a b) := rfl
@[simp] theorem eqvAll_nc (y : D) (b : List D) : PyData.eqvAll [] (y :: b) = false := rfl
@[simp] theorem eqvAll_cn (y : D) (b : List D) : PyData.eqvAll (y :: b) [] = false := rfl
@[simp] theorem eqD_ok {d e : D} (h1 : Ok 64 d) (h2 : Ok 64 e) : eqD d e = some (.bool (PyData.eqv d e)) := eqD_eqv h1 h2
@[simp] theorem neD_ok {d e : D} (h1 : Ok 64 d) (h2 : Ok 64 e) : neD d e = some (.bool (!PyData.eqv d e)) := neD_eqv h1 h2
theorem strl_inj {a b : String} : Str.ofString a = Str.ofString b ↔ a = b := by
  constructor
  · intro h
    rw [Str.ofString_eq_toList, Str.ofString_eq_toList] at h
    injection h with h
    have h2 : a.toList.map Char.toNat = b.toList.map Char.toNat := by simpa using h
    have h3 : a.toList = b.toList := (List.map_inj_right fun x y e => by
      rw [← Char.ofNat_toNat x, ← Char.ofNat_toNat y, e]).mp h2
    exact String.toList_inj.mp h3
  · intro h; rw [h]
@[simp] theorem strl_eq (a b : String) : decide (Str.ofString a = Str.ofString b) = decide (a = b) := by
  rw [Bool.eq_iff_iff, decide_eq_true_iff, decide_eq_true_iff]
  exact strl_inj

@[simp] theorem dflt_int : (PE.dflt : Int) = 0 := rfl
@[simp] theorem dflt_nat : (PE.dflt : Nat) = 0 := rfl
@[simp] theorem dflt_bool : (PE.dflt : Bool) = false := rfl
@[simp] theorem dflt_list : (PE.dflt : List α) = [] := rfl
@[simp] theorem dflt_pair : (PE.dflt : α × β) = (PE.dflt, PE.dflt) := rfl

/-! ### operations -/
/-- the item at a place -/
def gt (xs : List α) (i : Int) : α := xs.getD (if i < 0 then (i + xs.length).toNat else i.toNat) PE.dflt
theorem gt_nat (xs : List α) (k : Nat) : gt xs (k : Int) = xs.getD k PE.dflt := by
  unfold gt
  rw [if_neg (by omega)]
  simp
theorem gt_get (xs : List α) (k : Nat) (h : k < xs.length) : gt xs (k : Int) = xs[k] := by
  rw [gt_nat]
  simp [h]
theorem gt_int (xs : List α) (i : Int) (h0 : 0 ≤ i) : gt xs i = xs.getD i.toNat PE.dflt := by
  unfold gt
  rw [if_neg (by omega)]
theorem gt_mem (xs : List α) (i : Int) (h : -(xs.length : Int) ≤ i ∧ i < xs.length) : gt xs i ∈ xs := by
  unfold gt
  have : (if i < 0 then (i + xs.length).toNat else i.toNat) < xs.length := by split <;> omega
  rw [List.getD_eq_getElem?_getD, List.getElem?_eq_getElem this]
  exact List.getElem_mem _
theorem ixD_L (xs : List α) (i : Int) (h : -(xs.length : Int) ≤ i ∧ i < xs.length) : ixD (L xs) (.int i) = some (E (gt xs i)) := by
  show L2.atI (Ls xs) i = _
  unfold L2.atI L2.ixN gt
  rw [Ls_length]
  by_cases h0 : i < 0
  · have h2 : (i + xs.length).toNat < xs.length := by omega
    rw [if_neg (by omega), if_pos h.1, if_pos h0]
    simp [Ls, h2]
  · have h2 : i.toNat < xs.length := by omega
    rw [if_pos (by omega), if_pos h.2, if_neg h0]
    simp [Ls, h2]
theorem putL_E (xs : List α) (a : α) (i : Int) (h : 0 ≤ i ∧ i < xs.length) : putL (Ls xs) (E a) (.int i) = some (Ls (xs.set i.toNat a)) := by
  obtain ⟨k, rfl⟩ := Int.eq_ofNat_of_zero_le h.1
  have := putL_nat (ds := Ls xs) (d := E a) (i := k) (by rw [Ls_length]; omega)
  rw [this]
  simp [Ls, List.map_set]
theorem putL_int (xs : List Int) (a i : Int) (h : 0 ≤ i ∧ i < xs.length) : putL (Ls xs) (.int a) (.int i) = some (Ls (xs.set i.toNat a)) := putL_E xs a i h
theorem putL_natE (xs : List Nat) (a : Nat) (i : Int) (h : 0 ≤ i ∧ i < xs.length) : putL (Ls xs) (.int (a : Int)) (.int i) = some (Ls (xs.set i.toNat a)) := putL_E xs a i h
theorem putL_bool (xs : List Bool) (a : Bool) (i : Int) (h : 0 ≤ i ∧ i < xs.length) : putL (Ls xs) (.bool a) (.int i) = some (Ls (xs.set i.toNat a)) := putL_E xs a i h
theorem putL_list (xs : List (List α)) (a : List α) (i : Int) (h : 0 ≤ i ∧ i < xs.length) : putL (Ls xs) (L a) (.int i) = some (Ls (xs.set i.toNat a)) := putL_E xs a i h
@[simp] theorem lenD_L (xs : List α) : lenD [L xs] = some (.int (xs.length : Int)) := by
  show some (PyData.int ((Ls xs).length : Nat)) = _
  rw [Ls_length]
@[simp] theorem lstO_L (xs : List α) : lstO (L xs) = some (Ls xs) := Eq.trans (Eq.refl _) rfl
@[simp] theorem lstD_L (xs : List α) : lstD [L xs] = some (Ls xs) := Eq.trans (Eq.refl _) rfl
@[simp] theorem plO_L (xs : List α) : plO (L xs) = some (Ls xs) := Eq.trans (Eq.refl _) rfl
@[simp] theorem tplD_L (xs : List α) : tplD [L xs] = some (.tuple (Ls xs)) := Eq.trans (Eq.refl _) rfl
@[simp] theorem tplD_tuple (xs : List D) : tplD [.tuple xs] = some (.tuple xs) := Eq.trans (Eq.refl _) rfl
@[simp] theorem lstD_tuple (xs : List D) : lstD [.tuple xs] = some xs := Eq.trans (Eq.refl _) rfl
@[simp] theorem lstO_nil : lstO (.list []) = some [] := Eq.trans (Eq.refl _) rfl
@[simp] theorem lsE_L (xs : List α) (γ : Env) : lsE (some (L xs) :: γ) 0 = .ok (Ls xs) := Eq.trans (Eq.refl _) rfl
@[simp] theorem truD_L (xs : List α) : truD (L xs) = some (!xs.isEmpty) := by
  show some (!(Ls xs).isEmpty) = _
  cases xs <;> rfl
@[simp] theorem srtD_L (xs : List Int) : srtD [L xs] = some (Ls (srtI xs)) := srtD_int xs
@[simp] theorem srtD_nil : srtD [.list []] = some [] := Eq.trans (Eq.refl _) rfl
theorem Ls_ints (xs : List Int) : Ls xs = xs.map PyData.int := rfl
@[simp] theorem sumD_L (xs : List Int) : sumD [L xs] = some (.int xs.sum) := by
  show (intsO (Ls xs)).bind _ = _
  rw [Ls_ints, intsO_map]
  rfl
theorem maxD_L (xs : List Int) (h : xs ≠ []) : maxD [L xs] = some (.int (maxI xs)) := by
  show (intsO (Ls xs)).bind _ = _
  rw [Ls_ints, intsO_map]
  cases xs with
  | nil => exact absurd rfl h
  | cons a r => rfl
theorem minD_L (xs : List Int) (h : xs ≠ []) : minD [L xs] = some (.int (minI xs)) := by
  show (intsO (Ls xs)).bind _ = _
  rw [Ls_ints, intsO_map]
  cases xs with
  | nil => exact absurd rfl h
  | cons a r => rfl
@[simp] theorem maxD_2 (i j : Int) : maxD [.int i, .int j] = some (.int (if j > i then j else i)) := Eq.trans (Eq.refl _) rfl
@[simp] theorem minD_2 (i j : Int) : minD [.int i, .int j] = some (.int (if j < i then j else i)) := Eq.trans (Eq.refl _) rfl
theorem addD_L (a b : List α) (h : a.length + b.length ≤ 1000000) : addD (L a) (L b) = some (L (a ++ b)) := by
  rw [show L (a ++ b) = .list (Ls a ++ Ls b) by rw [Ls_append]; rfl]
  exact if_pos (by rw [Ls_length, Ls_length]; exact h)
theorem catD_L (a b : List α) (h : a.length + b.length ≤ 1000000) : catD (L a) (L b) = some (Ls (a ++ b)) := by
  rw [← Ls_append]
  exact if_pos (by rw [Ls_length, Ls_length]; exact h)
theorem addD_nil (a : List α) (h : a.length ≤ 1000000) : addD (L a) (.list []) = some (L a) := by
  have := addD_L a [] (by simpa using h)
  simpa using this
theorem addD_nil' (a : List α) (h : a.length ≤ 1000000) : addD (.list []) (L a) = some (L a) := by
  have := addD_L [] a (by simpa using h)
  simpa using this
theorem repD_1 (d : D) (k : Int) (h : 0 ≤ k ∧ k ≤ 1000000) : repD [d] (.int k) = some (List.replicate k.toNat d) := by
  obtain ⟨n, rfl⟩ := Int.eq_ofNat_of_zero_le h.1
  rw [repD_nat (by unfold LIM; omega) (by simp [LIM]; omega), rep_one]
  simp
theorem rep_int (k : Nat) (a : Int) : List.replicate k (PyData.int a) = Ls (List.replicate k a) := by simp [Ls]
theorem rep_bool (k : Nat) (a : Bool) : List.replicate k (PyData.bool a) = Ls (List.replicate k a) := by simp [Ls]
@[simp] theorem zipD_L (a : List α) (b : List β) : zipD [L a, L b] = some (Ls (a.zip b)) := by
  show some (((Ls a).zip (Ls b)).map _) = _
  unfold Ls
  rw [List.zip_map, List.map_map]
  rfl
@[simp] theorem revD_L (a : List α) : revD [L a] = some (Ls a.reverse) := by
  show some (Ls a).reverse = _
  simp [Ls]
theorem rg1_E (n : Int) (h : -1000000000000000000 ≤ n ∧ n ≤ 1000000000000000000) : rg1 [.int n] = some (Ls (List.range n.toNat)) := by
  show (if -RLIM ≤ n ∧ n ≤ RLIM then some (rgD 0 n) else none) = _
  rw [if_pos (by unfold RLIM; omega)]
  unfold rgD Ls
  simp
/-- the ints from a on below b -/
def rgF (a b : Int) : List Int := (List.range (b - a).toNat).map fun k : Nat => a + (k : Int)
theorem rg2_E (a n : Int) (h : -1000000000000000000 ≤ a ∧ a ≤ 1000000000000000000) (h2 : -1000000000000000000 ≤ n ∧ n ≤ 1000000000000000000) : rg2 [.int a, .int n] = some (Ls (rgF a n)) := by
  show (if (-RLIM ≤ a ∧ a ≤ RLIM) ∧ (-RLIM ≤ n ∧ n ≤ RLIM) then some (rgD a n) else none) = _
  rw [if_pos (by unfold RLIM; omega)]
  unfold rgD Ls rgF
  rw [List.map_map]
  rfl
theorem rgL1_E (n : Int) (h : 0 ≤ n ∧ n ≤ 1000000) : rgL1 (.int n) = some (Ls (List.range n.toNat)) := by
  obtain ⟨m, rfl⟩ := Int.eq_ofNat_of_zero_le h.1
  rw [rgL1_nat (by unfold LIM; omega)]
  rfl
theorem cut_E (xs : List α) (a b : Option Int) : cutD (Ls xs) a b = Ls ((xs.drop (HT.sIx xs.length 0 a)).take (HT.sIx xs.length xs.length b - HT.sIx xs.length 0 a)) := by
  unfold cutD
  rw [Ls_length]
  unfold Ls
  rw [← List.map_drop, ← List.map_take]
theorem cutD_toE (xs : List α) (k : Int) (h : 0 ≤ k) : cutD (Ls xs) none (some k) = Ls (xs.take k.toNat) := by
  obtain ⟨m, rfl⟩ := Int.eq_ofNat_of_zero_le h
  rw [cutD_to]
  simp [Ls, List.map_take]
theorem cutD_fromE (xs : List α) (k : Int) (h : 0 ≤ k) : cutD (Ls xs) (some k) none = Ls (xs.drop k.toNat) := by
  obtain ⟨m, rfl⟩ := Int.eq_ofNat_of_zero_le h
  rw [cutD_from]
  simp [Ls, List.map_drop]
@[simp] theorem cutAD_L (xs : List α) (a b : Option Int) : cutAD a b (L xs) = some (.list (cutD (Ls xs) a b)) := Eq.trans (Eq.refl _) rfl
@[simp] theorem cutLD_L (xs : List α) (a b : Option Int) : cutLD a b (L xs) = some (cutD (Ls xs) a b) := Eq.trans (Eq.refl _) rfl
theorem shaped_E (a : α) (h : PE.dep α ≤ 64) : SeqAt.shaped (E a) = true := (ok_E a h).shaped
theorem inD_E [DecidableEq α] (neg : Bool) (a : α) (xs : List α) (h : PE.dep α + 1 ≤ 64) : inD neg (E a) (L xs) = some (.bool (neg != decide (a ∈ xs))) := by
  show (if _ then _ else _) = _
  rw [if_pos ⟨shaped_E a (by omega), shaped_E xs h⟩]
  congr 3
  unfold Ls
  rw [List.any_map]
  rw [Bool.eq_iff_iff, List.any_eq_true, decide_eq_true_iff]
  constructor
  · rintro ⟨x, hx, e⟩
    have := (PE.eqv x a).mp e
    subst this
    exact hx
  · intro hm
    exact ⟨a, hm, (PE.eqv a a).mpr rfl⟩
@[simp] theorem inD_int (neg : Bool) (a : Int) (xs : List Int) : inD neg (.int a) (L xs) = some (.bool (neg != decide (a ∈ xs))) := inD_E neg a xs (by decide)
@[simp] theorem inD_natE (neg : Bool) (a : Nat) (xs : List Nat) : inD neg (.int (a : Int)) (L xs) = some (.bool (neg != decide (a ∈ xs))) := inD_E neg a xs (by decide)
@[simp] theorem inD_list (neg : Bool) (a : List Int) (xs : List (List Int)) : inD neg (L a) (L xs) = some (.bool (neg != decide (a ∈ xs))) := by
  have h := inD_E neg a xs (by decide)
  rw [E_list] at h
  rw [h]
  congr 3
  exact decide_eq_decide.mpr Iff.rfl
@[simp] theorem inD_listN (neg : Bool) (a : List Nat) (xs : List (List Nat)) : inD neg (L a) (L xs) = some (.bool (neg != decide (a ∈ xs))) := by
  have h := inD_E neg a xs (by decide)
  rw [E_list] at h
  rw [h]
  congr 3
  exact decide_eq_decide.mpr Iff.rfl
@[simp] theorem inD_bool (neg : Bool) (a : Bool) (xs : List Bool) : inD neg (.bool a) (L xs) = some (.bool (neg != decide (a ∈ xs))) := inD_E neg a xs (by decide)
theorem idxD_E [DecidableEq α] (a : α) (xs : List α) (h : PE.dep α + 1 ≤ 64) (hm : a ∈ xs) : idxD (L xs) [E a] = some (.int (xs.idxOf a : Nat)) := by
  show (if _ then _ else _) = _
  rw [if_pos ⟨shaped_E xs h, shaped_E a (by omega)⟩]
  have : (Ls xs).findIdx? (fun z => PyData.eqv z (E a)) = some (xs.idxOf a) := by
    unfold Ls
    rw [List.findIdx?_map]
    have e : (fun z => PyData.eqv z (E a)) ∘ (E : α → D) = fun z => z == a := by
      funext z
      show PyData.eqv (E z) (E a) = _
      rw [eqv_E]
      rfl
    rw [e, List.findIdx?_eq_some_iff_findIdx_eq]
    exact ⟨List.idxOf_lt_length_of_mem hm, rfl⟩
  rw [this]
  rfl
theorem idxD_int (a : Int) (xs : List Int) (hm : a ∈ xs) : idxD (L xs) [.int a] = some (.int (xs.idxOf a : Nat)) := idxD_E a xs (by decide) hm
theorem idxD_natE (a : Nat) (xs : List Nat) (hm : a ∈ xs) : idxD (L xs) [.int (a : Int)] = some (.int (xs.idxOf a : Nat)) := idxD_E a xs (by decide) hm
@[simp] theorem isNone_int (a : Int) : isNoneD (.int a) = false := Eq.trans (Eq.refl _) rfl
@[simp] theorem isNone_none : isNoneD .none = true := Eq.trans (Eq.refl _) rfl
@[simp] theorem isNone_L (a : List α) : isNoneD (L a) = false := Eq.trans (Eq.refl _) rfl
@[simp] theorem isNone_tuple (a : List D) : isNoneD (.tuple a) = false := Eq.trans (Eq.refl _) rfl
@[simp] theorem isi_bool (b : Bool) : isiD "bool" (.bool b) = some (.bool true) := Eq.trans (Eq.refl _) rfl

/-! ### comprehensions -/
theorem compE {i : Nat} {f : Env → Rs D} {γ : Env} {xs : List α} (y : α → β) (hl : xs.length ≤ 1000000) (h : ∀ x ∈ xs, f ((γ.set i none).set i (some (E x))) = .ok (E (y x))) : compR [i] (tgN i) tsYes f (Ls xs) γ = .ok (Ls (xs.map y)) := by
  have := comp1 (i := i) (γ := γ) (g := (E : α → D)) (fun x => E (y x)) hl h
  rw [Ls, this]
  simp [Ls]
theorem compEF {i : Nat} {c : Env → Rs Bool} {f : Env → Rs D} {γ : Env} {xs : List α} (p : α → Bool) (y : α → β) (hl : xs.length ≤ 1000000) (hc : ∀ x ∈ xs, c ((γ.set i none).set i (some (E x))) = .ok (p x)) (h : ∀ x ∈ xs, p x = true → f ((γ.set i none).set i (some (E x))) = .ok (E (y x))) :
    compR [i] (tgN i) c f (Ls xs) γ = .ok (Ls ((xs.filter p).map y)) := by
  have := comp1F (i := i) (γ := γ) (g := (E : α → D)) p (fun x => E (y x)) hl hc h
  rw [Ls, this]
  simp [Ls]
/-- over pairs -/
theorem compE2 {α' : Type} [PE α'] {i j : Nat} {f : Env → Rs D} {γ : Env} {xs : List (α × α')} (y : α × α' → β) (hl : xs.length ≤ 1000000) (h : ∀ x ∈ xs, f ((((γ.set j none).set i none).set i (some (E x.1))).set j (some (E x.2))) = .ok (E (y x))) :
    compR [i, j] (tgT 2 (tgCons (tgN i) (tgCons (tgN j) tgNil))) tsYes f (Ls xs) γ = .ok (Ls (xs.map y)) := by
  have := compR_map (vs := [i, j]) (t := tgT 2 (tgCons (tgN i) (tgCons (tgN j) tgNil))) (f := f) (γ := γ) (E : α × α' → D) (fun x => E (y x)) hl fun x hx => ⟨_, rfl, h x hx⟩
  rw [Ls, this]
  simp [Ls]
/-! ### loops -/
theorem for_E {t : D → Env → Option Env} {b : Env → Out} {xs : List α} {γ : Env} {o : Out} (hf : forS t b (Ls xs) γ = o) (P : Nat → Env → Prop) (h0 : P 0 γ)
    (step : ∀ (i : Nat) (hi : i < xs.length) γ, P i γ → ∃ γ1, t (E xs[i]) γ = some γ1 ∧ turn (P (i + 1)) (fun _ => False) (b γ1)) : ∃ γ', o = .nx γ' ∧ P xs.length γ' := for_all hf P h0 step
theorem for_ET {t : D → Env → Option Env} {b : Env → Out} {xs : List α} {γ : Env} {o : Out} (hf : forS t b (Ls xs) γ = o) (P : Nat → Env → Prop) (Q : Out → Prop) (h0 : P 0 γ)
    (step : ∀ (i : Nat) (hi : i < xs.length) γ, P i γ → ∃ γ1, t (E xs[i]) γ = some γ1 ∧ turn (P (i + 1)) Q (b γ1)) (fin : ∀ γ, P xs.length γ → Q (.nx γ)) : Q o := for_turns hf P Q h0 step fin
theorem for_R {n : Nat} {t : D → Env → Option Env} {b : Env → Out} {γ : Env} {o : Out} (hf : forS t b (Ls (List.range n)) γ = o) (P : Nat → Env → Prop) (h0 : P 0 γ)
    (step : ∀ (i : Nat) (hi : i < n) γ, P i γ → ∃ γ1, t (.int (i : Int)) γ = some γ1 ∧ turn (P (i + 1)) (fun _ => False) (b γ1)) : ∃ γ', o = .nx γ' ∧ P n γ' := for_rg hf P h0 step
theorem for_RT {n : Nat} {t : D → Env → Option Env} {b : Env → Out} {γ : Env} {o : Out} (hf : forS t b (Ls (List.range n)) γ = o) (P : Nat → Env → Prop) (Q : Out → Prop) (h0 : P 0 γ)
    (step : ∀ (i : Nat) (hi : i < n) γ, P i γ → ∃ γ1, t (.int (i : Int)) γ = some γ1 ∧ turn (P (i + 1)) Q (b γ1)) (fin : ∀ γ, P n γ → Q (.nx γ)) : Q o := for_rgT hf P Q h0 step fin
end
end DL
namespace DL
open PySem PySem.Spec PyProof.Rows L2
section
variable {α β : Type} [PE α] [PE β]
theorem cutD_E2 (xs : List α) (a b : Int) (h : 0 ≤ a ∧ a ≤ b) : cutD (Ls xs) (some a) (some b) = Ls ((xs.drop a.toNat).take (b - a).toNat) := by
  obtain ⟨m, rfl⟩ := Int.eq_ofNat_of_zero_le h.1
  obtain ⟨k, rfl⟩ := Int.eq_ofNat_of_zero_le (Int.le_trans h.1 h.2)
  rw [cut_E, HT.sIx_nat, HT.sIx_nat]
  have e : ((k : Int) - (m : Int)).toNat = k - m := by omega
  rw [e, Int.toNat_natCast]
  congr 1
  by_cases hm : m ≤ xs.length
  · rw [Nat.min_eq_left hm]
    by_cases hk : k ≤ xs.length
    · rw [Nat.min_eq_left hk]
    · rw [Nat.min_eq_right (by omega), List.take_of_length_le (by simp), List.take_of_length_le (by simp; omega)]
  · have h1 : xs.drop m = [] := List.drop_eq_nil_of_le (by omega)
    have h2 : xs.drop (min m xs.length) = [] := List.drop_eq_nil_of_le (by omega)
    rw [h1, h2]
    simp
theorem extS_eq (i : Nat) (fe : Env → Rs (List D)) (γ : Env) : extS i fe γ = liftS ((lsE γ i).bind fun ds => (fe γ).bind fun es => oR (if ds.length + es.length ≤ 1000000 then some (ds ++ es) else none)) γ fun es => .nx (γ.set i (some (.list es))) := rfl
theorem popS_eq (i : Nat) (γ : Env) : popS i γ = liftS ((lsE γ i).bind fun ds => oR (if ds.isEmpty = false then some ds.dropLast else none)) γ fun es => .nx (γ.set i (some (.list es))) := rfl
theorem popSet_eq (i j : Nat) (γ : Env) : popSet i j γ = liftS ((lsE γ i).bind fun ds => oR (ds.getLast?.map fun d => (ds.dropLast, d))) γ fun es => .nx ((γ.set i (some (.list es.1))).set j (some es.2)) := rfl
/-- x.append(e) -/
theorem appS_E (i : Nat) (fe : Env → Rs D) (γ : Env) : appS i fe γ = liftS ((lsE γ i).bind fun ds => (fe γ).bind fun d => oR (if ds.length < 1000000 then some (ds ++ [d]) else none)) γ fun es => .nx (γ.set i (some (.list es))) := rfl
theorem rgF_nat (a b : Nat) : rgF (a : Int) (b : Int) = (List.range' a (b - a)).map fun k : Nat => (k : Int) := by
  unfold rgF
  rw [show ((b : Int) - (a : Int)).toNat = b - a by omega, List.range'_eq_map_range, List.map_map]
  apply List.map_congr_left
  intro k _
  simp
theorem rgF_len (a b : Int) : (rgF a b).length = (b - a).toNat := by simp [rgF]
theorem rgF_get (a b : Int) (i : Nat) (h : i < (rgF a b).length) : (rgF a b)[i] = a + i := by simp [rgF]
theorem rgF_mem (a b x : Int) : x ∈ rgF a b ↔ a ≤ x ∧ x < b := by
  unfold rgF
  rw [List.mem_map]
  constructor
  · rintro ⟨k, hk, rfl⟩
    rw [List.mem_range] at hk
    omega
  · rintro ⟨h1, h2⟩
    exact ⟨(x - a).toNat, by rw [List.mem_range]; omega, by omega⟩
/-- for x in range(a, b) -/
theorem for_F {a b : Int} {t : D → Env → Option Env} {bd : Env → Out} {γ : Env} {o : Out} (hf : forS t bd (Ls (rgF a b)) γ = o) (P : Nat → Env → Prop) (h0 : P 0 γ)
    (step : ∀ (i : Nat) (hi : a + i < b) γ, P i γ → ∃ γ1, t (.int (a + i)) γ = some γ1 ∧ turn (P (i + 1)) (fun _ => False) (bd γ1)) : ∃ γ', o = .nx γ' ∧ P (b - a).toNat γ' := by
  have := for_E hf P h0 fun i hi γ hp => by
    rw [rgF_get]
    exact step i (by rw [rgF_len] at hi; omega) γ hp
  rwa [rgF_len] at this
theorem for_FT {a b : Int} {t : D → Env → Option Env} {bd : Env → Out} {γ : Env} {o : Out} (hf : forS t bd (Ls (rgF a b)) γ = o) (P : Nat → Env → Prop) (Q : Out → Prop) (h0 : P 0 γ)
    (step : ∀ (i : Nat) (hi : a + i < b) γ, P i γ → ∃ γ1, t (.int (a + i)) γ = some γ1 ∧ turn (P (i + 1)) Q (bd γ1)) (fin : ∀ γ, P (b - a).toNat γ → Q (.nx γ)) : Q o :=
  for_ET hf P Q h0 (fun i hi γ hp => by
    rw [rgF_get]
    exact step i (by rw [rgF_len] at hi; omega) γ hp) (by rw [rgF_len]; exact fin)
theorem getLastD_append {γ : Type} {a b : List γ} (x : γ) (h : b ≠ []) : (a ++ b).getLast?.getD x = b.getLast?.getD x := by
  rw [List.getLast?_append]
  cases hb : b.getLast? with
  | none => rw [List.getLast?_eq_none_iff] at hb; exact absurd hb h
  | some z => rfl
theorem ixD_last (xs : List α) (h : xs ≠ []) : ixD (L xs) (.int (-1)) = some (E (xs.getLast?.getD PE.dflt)) := by
  have h0 := List.length_pos_iff.mpr h
  rw [ixD_L xs (-1) (by omega)]
  congr 2
  unfold gt
  rw [if_pos (by decide), List.getLast?_eq_getElem?, List.getD_eq_getElem?_getD, show ((-1 : Int) + xs.length).toNat = xs.length - 1 by omega]
@[simp] theorem outR_no : outR .no = .no := Eq.trans (Eq.refl _) rfl
@[simp] theorem thn_no (g : Env → Out) : thn .no g = .no := Eq.trans (Eq.refl _) rfl
@[simp] theorem ixD_t0 (a : D) (r : List D) : ixD (.tuple (a :: r)) (.int 0) = some a := by
  show L2.atI (a :: r) 0 = _
  unfold L2.atI L2.ixN
  rw [if_pos (by decide), if_pos (by simp <;> omega)]
  rfl
@[simp] theorem ixD_t1 (a b : D) (r : List D) : ixD (.tuple (a :: b :: r)) (.int 1) = some b := by
  show L2.atI (a :: b :: r) 1 = _
  unfold L2.atI L2.ixN
  rw [if_pos (by decide), if_pos (by simp <;> omega)]
  rfl
@[simp] theorem ixD_t2 (a b c : D) (r : List D) : ixD (.tuple (a :: b :: c :: r)) (.int 2) = some c := by
  show L2.atI (a :: b :: c :: r) 2 = _
  unfold L2.atI L2.ixN
  rw [if_pos (by decide), if_pos (by simp <;> omega)]
  rfl
theorem log2_lt {j : Nat} {n : Nat} (h : j < 2 ^ n) (hn : 0 < n) : j.log2 < n := by
  by_cases h0 : j = 0
  · subst h0; simpa using hn
  · exact (Nat.log2_lt h0).mpr h
theorem fdivW_big {i j : Int} (h : 0 < j) (h2 : j.natAbs < 2 ^ 9000) : fdivWD (.int i) (.int j) = some (.int (i / j)) := by
  show (if decide (0 < j ∧ j.natAbs.log2 < 9000) = true then _ else _) = _
  rw [if_pos (decide_eq_true ⟨h, log2_lt h2 (by decide)⟩)]
theorem fdivW_int {i j : Int} (h : 0 < j) (h2 : j < 18446744073709551616) : fdivWD (.int i) (.int j) = some (.int (i / j)) := by
  refine fdivW_big h ?_
  have h3 : j.natAbs < 2 ^ 64 := by omega
  exact Nat.lt_of_lt_of_le h3 (Nat.pow_le_pow_right (by decide) (by decide))
@[simp] theorem revLD_L (xs : List α) : revLD (L xs) = some (Ls xs.reverse) := by
  show some (Ls xs).reverse = _
  simp [Ls]
theorem appInS_eq (i : Nat) (fi fe : Env → Rs D) (γ : Env) : appInS i fi fe γ = liftS ((lsE γ i).bind fun ds => (fi γ).bind fun k => (oR (ixJ ds k)).bind fun t => (fe γ).bind fun d => oR (if t.2.length < 1000000 then some (ds.set t.1 (.list (t.2 ++ [d]))) else none)) γ fun es => .nx (γ.set i (some (.list es))) := rfl
theorem ixJ_L (xs : List (List α)) (i : Int) (h : 0 ≤ i ∧ i < xs.length) : ixJ (Ls xs) (.int i) = some (i.toNat, Ls (xs.getD i.toNat [])) := by
  obtain ⟨k, rfl⟩ := Int.eq_ofNat_of_zero_le h.1
  have hk : k < xs.length := by omega
  show (L2.ixN (Ls xs).length (k : Int)).bind _ = _
  rw [Ls_length, ixN_nat hk]
  simp [Ls, hk, L]
theorem ixJ_last (xs : List (List α)) (h : 0 < xs.length) : ixJ (Ls xs) (.int (-1)) = some (xs.length - 1, Ls (xs.getD (xs.length - 1) [])) := by
  have e : L2.ixN (Ls xs).length (-1) = some (xs.length - 1) := by
    unfold L2.ixN
    rw [Ls_length, if_neg (by decide), if_pos (by omega)]
    congr 1
    omega
  show (L2.ixN (Ls xs).length (-1)).bind _ = _
  rw [e]
  have hk : xs.length - 1 < xs.length := by omega
  simp [Ls, hk, L]
@[simp] theorem Ls_set_L (xs : List (List α)) (i : Nat) (a : List α) : (Ls xs).set i (L a) = Ls (xs.set i a) := by
  unfold Ls
  rw [List.map_set]
  rfl
@[simp] theorem lenLD_L (xs : List α) : lenLD [L xs] = some (.int (xs.length : Int)) := by
  show some (PyData.int ((Ls xs).length : Nat)) = _
  rw [Ls_length]
theorem ixLD_L (xs : List (List α)) (i : Int) (h : -(xs.length : Int) ≤ i ∧ i < xs.length) : ixLD (L xs) (.int i) = some (E (gt xs i)) := ixD_L xs i h
/-- lists of ints that are numbers from 0 on -/
theorem Lc1 (i : Nat) : L [(i : Int)] = L [i] := rfl
theorem Lc (l : List Nat) : L (l.map fun k : Nat => (k : Int)) = L l := by
  unfold L Ls
  rw [List.map_map]
  rfl
theorem szL_Ls (xs : List α) (h : xs.length ≤ 1000000) : szL (Ls xs) = some (Ls xs) := szL_ok (by rw [Ls_length]; exact h)
end
end DL
set_option Elab.async false
set_option linter.all false
set_option maxRecDepth 100000
set_option maxHeartbeats 1000000
/-! The laws' own helpers, on typed values. -/
namespace DL
open PySem PySem.Spec PyProof.Rows L2

/-- what a law sees of its script -/
def Scr (sc : D) (c : Int → Int) : Prop := ∀ k : Int, 0 ≤ k → F__law_cell [sc, .int k] = .ok (.int (c k))
theorem Scr.cell {sc : D} {c : Int → Int} (h : Scr sc c) (k : Int) (hk : 0 ≤ k) : F__law_cell [sc, .int k] = .ok (.int (c k)) := h k hk
theorem scr_of (ns : List Int) : ∃ c, Scr (rolD (ns.map PyData.int)) c := ⟨fun k => cell ns k.toNat, fun k hk => F__law_cell_eq ns k hk⟩
theorem law_of_scr {F : List D → Rs D} (h : ∀ sc c, Scr sc c → F [sc] = .ok (.bool true)) : ∀ ns : List Int, ns.length ≤ 63 → F [rolD (ns.map PyData.int)] = .ok (.bool true) := fun ns _ => by
  obtain ⟨c, hc⟩ := scr_of ns
  exact h _ c hc

/-! draws -/
open Classical in
noncomputable def drw (c : Int) (ls : List Int) : List Int := if h : ∃ ds : List Int, F__law_draw [.int c, iL ls] = .ok (iL ds) ∧ Below ds ls then Classical.choose h else []
theorem drw_spec (c : Int) (ls : List Int) (hl : ∀ l ∈ ls, 0 < l ∧ l < 18446744073709551616) (hn : ls.length ≤ 1000000) : F__law_draw [.int c, L ls] = .ok (L (drw c ls)) ∧ Below (drw c ls) ls := by
  have h := F__law_draw_eq c ls hl hn
  have e : drw c ls = Classical.choose h := dif_pos h
  rw [e]
  exact Classical.choose_spec h
theorem drw_E (c : Int) (ls : List Int) (hl : ∀ l ∈ ls, 0 < l ∧ l < 18446744073709551616) (hn : ls.length ≤ 1000000) : F__law_draw [.int c, L ls] = .ok (L (drw c ls)) := (drw_spec c ls hl hn).1
theorem drw_len (c : Int) (ls : List Int) (hl : ∀ l ∈ ls, 0 < l ∧ l < 18446744073709551616) (hn : ls.length ≤ 1000000) : (drw c ls).length = ls.length := (drw_spec c ls hl hn).2.1
theorem drw_at (c : Int) (ls : List Int) (hl : ∀ l ∈ ls, 0 < l ∧ l < 18446744073709551616) (hn : ls.length ≤ 1000000) (k : Nat) (hk : k < ls.length) : 0 ≤ (drw c ls).getD k 0 ∧ (drw c ls).getD k 0 < ls.getD k 0 := (drw_spec c ls hl hn).2.2 k hk
/-- all limits alike -/
noncomputable def drwR (c : Int) (n : Nat) (m : Int) : List Int := drw c (List.replicate n m)
theorem drwR_E (c : Int) (n : Nat) (m : Int) (hm : 0 < m ∧ m < 18446744073709551616) (hn : n ≤ 1000000) : F__law_draw [.int c, L (List.replicate n m)] = .ok (L (drwR c n m)) :=
  drw_E c _ (fun l hl => by rw [(List.mem_replicate.mp hl).2]; exact hm) (by rw [List.length_replicate]; exact hn)
theorem drwR_len (c : Int) (n : Nat) (m : Int) (hm : 0 < m ∧ m < 18446744073709551616) (hn : n ≤ 1000000) : (drwR c n m).length = n := by
  have := drw_len c (List.replicate n m) (fun l hl => by rw [(List.mem_replicate.mp hl).2]; exact hm) (by rw [List.length_replicate]; exact hn)
  rwa [List.length_replicate] at this
theorem drwR_mem (c : Int) (n : Nat) (m : Int) (hm : 0 < m ∧ m < 18446744073709551616) (hn : n ≤ 1000000) : ∀ x ∈ drwR c n m, 0 ≤ x ∧ x < m := fun x hx => by
  have hl : ∀ l ∈ List.replicate n m, 0 < l ∧ l < 18446744073709551616 := fun l hl => by rw [(List.mem_replicate.mp hl).2]; exact hm
  have hn' : (List.replicate n m).length ≤ 1000000 := by rw [List.length_replicate]; exact hn
  obtain ⟨k, hk, rfl⟩ := List.getElem_of_mem hx
  have hk2 : k < n := by
    have := drwR_len c n m hm hn
    omega
  have h := drw_at c _ hl hn' k (by rw [List.length_replicate]; exact hk2)
  have e : (drw c (List.replicate n m)).getD k 0 = (drwR c n m)[k] := by
    unfold drwR at hk ⊢
    simp [List.getD_eq_getElem?_getD, hk]
  rw [e] at h
  simpa [List.getD_eq_getElem?_getD, hk2] using h

/-! orders of a size -/
open Classical in
noncomputable def osz (c : Int) (n : Nat) : List Nat := if h : ∃ o : List Nat, F__law_of_size [.int c, nI n] = .ok (oL o) ∧ o.Perm (List.range n) then Classical.choose h else []
theorem osz_spec (c : Int) (n : Nat) (hn : n ≤ 1000000) : F__law_of_size [.int c, .int (n : Int)] = .ok (L (osz c n)) ∧ IsP (osz c n) n := by
  have h := F__law_of_size_eq c n hn
  have e : osz c n = Classical.choose h := dif_pos h
  rw [e]
  exact ⟨(Classical.choose_spec h).1, ⟨(Classical.choose_spec h).2⟩⟩
theorem osz_E (c : Int) (n : Nat) (hn : n ≤ 1000000) : F__law_of_size [.int c, .int (n : Int)] = .ok (L (osz c n)) := (osz_spec c n hn).1
theorem osz_P (c : Int) (n : Nat) (hn : n ≤ 1000000) : IsP (osz c n) n := (osz_spec c n hn).2

theorem lo_E (c : Int) (m : Nat) (hm : m < 1000000) : ∃ (o : List Nat) (n : Nat), n ≤ m ∧ F__law_order [.int c, .int (m : Int)] = .ok (L o) ∧ IsP o n := by
  obtain ⟨o, n, h1, h2, h3⟩ := F__law_order_eq c m hm
  exact ⟨o, n, h1, h2, ⟨h3⟩⟩
theorem cb_E (v a b : Int) (h : a ≤ v ∧ v ≤ b) : F_check_between [.int v, .int a, .int b] = .ok .none := by
  rw [F_check_between_eq, if_neg (by omega)]
theorem cb_er (v a b : Int) (h : v < a ∨ b < v) : F_check_between [.int v, .int a, .int b] = .er "OutOfRange" [("value", .int v), ("label", .str "OutOfRange")] := by
  rw [F_check_between_eq, if_pos (by omega)]

/-! orders -/
theorem chk_E {o : List Nat} {n : Nat} (h : IsP o n) (hn : n ≤ 1000000) : F_check_order [L o] = .ok .none := by
  have := F_check_order_eq (o.map fun k : Nat => (k : Int)) (by rw [List.length_map, h.len]; exact hn)
  rw [h.ord, if_pos rfl, ← oL_iL] at this
  exact this
theorem chk_no (ns : List Int) (h : isOrd ns = false) (hn : ns.length ≤ 1000000) : F_check_order [L ns] = .er "NotOrder" [("label", .str "NotOrder")] := by
  have := F_check_order_eq ns hn
  rw [h] at this
  exact this
theorem bk_E {o : List Nat} {n : Nat} (h : IsP o n) (hn : n ≤ 1000000) : F_backward [L o] = .ok (L (invO o)) := F_backward_eq h hn
theorem lbk_E {o : List Nat} {n : Nat} (h : IsP o n) (hn : n ≤ 1000000) : F__law_back [L o] = .ok (L (invO o)) := F__law_back_eq h hn
theorem cyc_E {o : List Nat} {n : Nat} (h : IsP o n) (hn : n < 1000000) : F_cycles_of [L o] = .ok (L (cycs (invO o) n)) := F_cycles_of_eq h hn
theorem lcyc_E {o : List Nat} {n : Nat} (h : IsP o n) (hn : n + n < 1000000) : F__law_cycles [L o] = .ok (L (cycs (invO o) n)) := F__law_cycles_eq h hn
theorem per_E {o : List Nat} {n : Nat} (h : IsP o n) (hn : n < 1000000) : F_period_of [L o] = .ok (.int (prd (invO o) n : Nat)) := F_period_of_eq h hn
theorem lper_E {o : List Nat} {n : Nat} (h : IsP o n) (hn : n + n < 1000000) : F__law_period [L o] = .ok (.int (prd (invO o) n : Nat)) := F__law_period_eq h hn
end DL
namespace DL
theorem tn_mod (a b : Nat) : ((a : Int) % (b : Int)).toNat = a % b := by rw [← Int.natCast_emod, Int.toNat_natCast]
theorem tn_div (a b : Nat) : ((a : Int) / (b : Int)).toNat = a / b := by rw [← Int.natCast_ediv, Int.toNat_natCast]
/-! lists written out -/
@[simp] theorem szL_5 (a0 a1 a2 a3 a4 : D) : szL [a0, a1, a2, a3, a4] = some [a0, a1, a2, a3, a4] := Eq.trans (Eq.refl _) rfl
@[simp] theorem szL_6 (a0 a1 a2 a3 a4 a5 : D) : szL [a0, a1, a2, a3, a4, a5] = some [a0, a1, a2, a3, a4, a5] := Eq.trans (Eq.refl _) rfl
@[simp] theorem szL_7 (a0 a1 a2 a3 a4 a5 a6 : D) : szL [a0, a1, a2, a3, a4, a5, a6] = some [a0, a1, a2, a3, a4, a5, a6] := Eq.trans (Eq.refl _) rfl
@[simp] theorem szL_8 (a0 a1 a2 a3 a4 a5 a6 a7 : D) : szL [a0, a1, a2, a3, a4, a5, a6, a7] = some [a0, a1, a2, a3, a4, a5, a6, a7] := Eq.trans (Eq.refl _) rfl
@[simp] theorem szL_9 (a0 a1 a2 a3 a4 a5 a6 a7 a8 : D) : szL [a0, a1, a2, a3, a4, a5, a6, a7, a8] = some [a0, a1, a2, a3, a4, a5, a6, a7, a8] := Eq.trans (Eq.refl _) rfl
@[simp] theorem szL_10 (a0 a1 a2 a3 a4 a5 a6 a7 a8 a9 : D) : szL [a0, a1, a2, a3, a4, a5, a6, a7, a8, a9] = some [a0, a1, a2, a3, a4, a5, a6, a7, a8, a9] := Eq.trans (Eq.refl _) rfl
@[simp] theorem szL_11 (a0 a1 a2 a3 a4 a5 a6 a7 a8 a9 a10 : D) : szL [a0, a1, a2, a3, a4, a5, a6, a7, a8, a9, a10] = some [a0, a1, a2, a3, a4, a5, a6, a7, a8, a9, a10] := Eq.trans (Eq.refl _) rfl
end DL
set_option Elab.async false
set_option linter.all false
set_option maxRecDepth 100000
set_option maxHeartbeats 1000000
/-! Plain: factorials, ranks of orders, the n-th order, rising sequences. -/
namespace DL
open PySem PySem.Spec PyProof.Rows L2

def fct : Nat → Nat
  | 0 => 1
  | n + 1 => (n + 1) * fct n
theorem fct_pos : ∀ n, 0 < fct n
  | 0 => by decide
  | n + 1 => Nat.mul_pos (by omega) (fct_pos n)
theorem fct_mono {a b : Nat} (h : a ≤ b) : fct a ≤ fct b := by
  induction h with
  | refl => exact Nat.le_refl _
  | step _ ih => exact Nat.le_trans ih (Nat.le_mul_of_pos_left _ (by omega))
/-- the rank, by how many of the later are less -/
def rkS : List Nat → Nat
  | [] => 0
  | c :: r => (r.filter fun x => decide (x < c)).length * fct r.length + rkS r
theorem rkS_lt : ∀ o : List Nat, rkS o < fct o.length
  | [] => by decide
  | c :: r => by
    have h1 := rkS_lt r
    have h2 : (r.filter fun x => decide (x < c)).length ≤ r.length := List.length_filter_le ..
    have h3 := Nat.mul_le_mul_right (fct r.length) h2
    show _ < (r.length + 1) * fct r.length
    rw [Nat.succ_mul]
    show _ * _ + _ < _
    omega
/-- the n-th order of ascending cards -/
def nthF : Nat → List Nat → Nat → List Nat
  | 0, _, _ => []
  | m + 1, l, n => l.getD (n / fct m) 0 :: nthF m (l.eraseIdx (n / fct m)) (n % fct m)
/-- ascending -/
abbrev Asc (l : List Nat) : Prop := l.Pairwise (· < ·)
theorem Asc.nd {l : List Nat} (h : Asc l) : l.Nodup := by
  rw [List.nodup_iff_pairwise_ne]
  exact h.imp fun h => by omega
theorem asc_range (n : Nat) : Asc (List.range n) := List.pairwise_lt_range
theorem Asc.erase {l : List Nat} (h : Asc l) (q : Nat) : Asc (l.eraseIdx q) := h.sublist (List.eraseIdx_sublist l q)
theorem Asc.less {l : List Nat} (h : Asc l) {q : Nat} (hq : q < l.length) : (l.filter fun x => decide (x < l.getD q 0)).length = q := by
  have e : l.getD q 0 = l[q] := by simp [hq]
  rw [e]
  induction l generalizing q with
  | nil => simp at hq
  | cons a r ih =>
    have h1 := List.pairwise_cons.mp h
    cases q with
    | zero =>
      simp only [List.getElem_cons_zero]
      rw [List.filter_cons_of_neg (by simp)]
      rw [List.filter_eq_nil_iff.mpr fun x hx => by have := h1.1 x hx; simp; omega]
      rfl
    | succ q =>
      have hq' : q < r.length := by simpa using hq
      simp only [List.getElem_cons_succ]
      rw [List.filter_cons_of_pos (by have := h1.1 r[q] (List.getElem_mem hq'); simpa using this), List.length_cons, ih h1.2 hq' (by simp [hq'])]
theorem Asc.idx {l : List Nat} (h : Asc l) {c : Nat} (hc : c ∈ l) : l.idxOf c = (l.filter fun x => decide (x < c)).length := by
  have hl := List.idxOf_lt_length_of_mem hc
  have := h.less hl
  rw [List.getD_eq_getElem?_getD, List.getElem?_eq_getElem hl, Option.getD_some, List.getElem_idxOf] at this
  exact this.symm
theorem perm_erase {l : List Nat} {q : Nat} (hq : q < l.length) : l.Perm (l.getD q 0 :: l.eraseIdx q) := by
  have e : l.getD q 0 = l[q] := by simp [hq]
  rw [e, List.eraseIdx_eq_take_drop_succ]
  conv => lhs; rw [← List.take_append_drop q l, ← List.getElem_cons_drop hq]
  exact List.perm_middle
theorem nthF_len : ∀ (m : Nat) (l : List Nat) (n : Nat), (nthF m l n).length = m
  | 0, _, _ => rfl
  | m + 1, l, n => by
    unfold nthF
    rw [List.length_cons, nthF_len m]
theorem nthF_perm : ∀ (m : Nat) (l : List Nat) (n : Nat), l.length = m → n < fct m → (nthF m l n).Perm l
  | 0, l, _, h, _ => by
    have : l = [] := List.eq_nil_of_length_eq_zero h
    subst this
    exact .refl _
  | m + 1, l, n, h, hn => by
    have hp := fct_pos m
    have hq : n / fct m < l.length := by
      rw [h]
      exact (Nat.div_lt_iff_lt_mul hp).mpr hn
    unfold nthF
    exact ((nthF_perm m _ _ (by rw [List.length_eraseIdx_of_lt hq]; omega) (Nat.mod_lt _ hp)).cons _).trans (perm_erase hq).symm
theorem filter_perm_len {a b : List Nat} (h : a.Perm b) (p : Nat → Bool) : (a.filter p).length = (b.filter p).length := (h.filter p).length_eq
theorem rk_nth : ∀ (m : Nat) (l : List Nat) (n : Nat), Asc l → l.length = m → n < fct m → rkS (nthF m l n) = n
  | 0, _, n, _, _, h => by
    have : n < 1 := h
    have : n = 0 := by omega
    subst this
    rfl
  | m + 1, l, n, ha, h, hn => by
    have hp := fct_pos m
    have hq : n / fct m < l.length := by
      rw [h]
      exact (Nat.div_lt_iff_lt_mul hp).mpr hn
    have hl : (l.eraseIdx (n / fct m)).length = m := by rw [List.length_eraseIdx_of_lt hq]; omega
    have ih := rk_nth m _ (n % fct m) (ha.erase (n / fct m)) hl (Nat.mod_lt _ hp)
    have pr := nthF_perm m (l.eraseIdx (n / fct m)) (n % fct m) hl (Nat.mod_lt _ hp)
    have hc := ha.less hq
    rw [filter_perm_len (perm_erase hq), List.filter_cons_of_neg (by simp), ← filter_perm_len pr] at hc
    unfold nthF rkS
    rw [ih, hc, nthF_len, Nat.mul_comm]
    exact Nat.div_add_mod n (fct m)
theorem nth_rk : ∀ (l o : List Nat), Asc l → o.Perm l → nthF o.length l (rkS o) = o := by
  intro l o
  induction o generalizing l with
  | nil => intro _ _; rfl
  | cons c r ih =>
    intro ha hp
    have hr := rkS_lt r
    have hpos := fct_pos r.length
    have hcl : c ∈ l := hp.mem_iff.mp List.mem_cons_self
    have hcnt : (r.filter fun x => decide (x < c)).length = l.idxOf c := by
      rw [ha.idx hcl, ← filter_perm_len hp, List.filter_cons_of_neg (by simp)]
    have hd : rkS (c :: r) / fct r.length = l.idxOf c := by
      unfold rkS
      rw [hcnt, Nat.mul_comm, Nat.mul_add_div hpos, Nat.div_eq_of_lt hr, Nat.add_zero]
    have hm : rkS (c :: r) % fct r.length = rkS r := by
      show ((r.filter fun x => decide (x < c)).length * fct r.length + rkS r) % fct r.length = rkS r
      rw [Nat.mul_comm, Nat.mul_add_mod, Nat.mod_eq_of_lt hr]
    have hil := List.idxOf_lt_length_of_mem hcl
    have hg : l.getD (l.idxOf c) 0 = c := by
      rw [List.getD_eq_getElem?_getD, List.getElem?_eq_getElem hil, Option.getD_some, List.getElem_idxOf]
    show l.getD (rkS (c :: r) / fct r.length) 0 :: nthF r.length (l.eraseIdx (rkS (c :: r) / fct r.length)) (rkS (c :: r) % fct r.length) = _
    rw [hd, hm, hg, ih _ (ha.erase _) ?_]
    have := perm_erase hil
    rw [hg] at this
    exact (hp.trans this).cons_inv
/-- rising sequences, by the places to which cards go -/
def ris (g : List Nat) : Nat → List (List Nat)
  | 0 => []
  | i + 1 => if 0 < i ∧ g.getD (i - 1) 0 < g.getD i 0 then (ris g i).set ((ris g i).length - 1) ((ris g i).getD ((ris g i).length - 1) [] ++ [i]) else ris g i ++ [[i]]
theorem ris_len (g : List Nat) : ∀ i, (ris g i).length ≤ i
  | 0 => Nat.le_refl _
  | i + 1 => by
    have := ris_len g i
    unfold ris
    split
    · rw [List.length_set]; omega
    · rw [List.length_append, List.length_singleton]; omega
theorem ris_ne (g : List Nat) : ∀ i, 0 < i → ris g i ≠ []
  | 0, h => by omega
  | i + 1, _ => by
    unfold ris
    split
    · rename_i h
      have := ris_ne g i h.1
      intro z
      exact this (by simpa using congrArg List.length z)
    · simp
theorem ris_item (g : List Nat) : ∀ i, ∀ r ∈ ris g i, r.length ≤ i
  | 0, r, h => by cases h
  | i + 1, r, h => by
    unfold ris at h
    split at h
    · rename_i hc
      rcases List.mem_or_eq_of_mem_set h with h | h
      · have := ris_item g i r h
        omega
      · subst h
        have h0 := List.length_pos_iff.mpr (ris_ne g i hc.1)
        have hm : (ris g i).getD ((ris g i).length - 1) [] ∈ ris g i := by
          rw [List.getD_eq_getElem?_getD, List.getElem?_eq_getElem (by omega)]
          exact List.getElem_mem _
        have := ris_item g i _ hm
        rw [List.length_append, List.length_singleton]
        omega
    · rcases List.mem_append.mp h with h | h
      · have := ris_item g i r h
        omega
      · rw [List.mem_singleton] at h
        subst h
        simp
end DL
set_option Elab.async false
set_option linter.all false
set_option maxRecDepth 100000
set_option maxHeartbeats 1000000
/-! Plain: what factorial, order_at, rising_of answer. -/
namespace DL
open PySem PySem.Spec PyProof.Rows L2
local macro_rules | `(tactic| trivial) => `(tactic| first | omega | (simp; done))

def PFa (n : Nat) (i : Nat) (γ : Env) : Prop := ∃ x, γ = [some (.int n), some (.int (fct (i + 1) : Nat)), x]
theorem fact_E (n : Nat) (hn : n ≤ 1000000) : F_factorial [.int n] = .ok (.int (fct n : Nat)) := by
  simp (disch := trivial) [F_factorial, callS_eq, g_factorial, rg2_E]
  generalize hf : forS _ _ _ _ = o
  obtain ⟨γ', rfl, x, rfl⟩ := for_F hf (PFa n) ⟨none, rfl⟩ (by
    rintro i hi γ ⟨x, rfl⟩
    refine ⟨_, rfl, ?_⟩
    have hm := mulD_int (i := (fct (i + 1) : Nat)) (j := 2 + i) (.inr (by omega))
    have e : ((fct (i + 1 + 1) : Nat) : Int) = (fct (i + 1) : Nat) * (2 + (i : Int)) := by
      rw [show fct (i + 1 + 1) = (i + 1 + 1) * fct (i + 1) from rfl, Nat.mul_comm]
      push_cast
      rw [show (i : Int) + 1 + 1 = 2 + i by omega]
    unfold PFa
    rw [e]
    generalize fct (i + 1) = p at *
    simp [hm])
  have e : fct ((n : Int) + 1 - 2).toNat.succ = fct n := by
    cases n with
    | zero => rfl
    | succ k => rw [show (((k + 1 : Nat) : Int) + 1 - 2).toNat.succ = k + 1 by omega]
  rw [← e]
  simp
/-! order_at -/
def PO1 (l : List Nat) (n : Nat) (i : Nat) (γ : Env) : Prop := ∃ (ds : List Nat) (x : Option D), γ = [some (L l), some (.int (n / fct i : Nat)), some (L ds), x, none, none, none] ∧ ds = (List.range i).map fun k => n / fct k % (k + 1)
theorem div_fct (n i : Nat) : n / fct i / (i + 1) = n / fct (i + 1) := by
  rw [Nat.div_div_eq_div_mul]
  congr 1
  exact Nat.mul_comm _ _
def PO2 (l : List Nat) (n : Nat) (y z : D) (w : Option D) (i : Nat) (γ : Env) : Prop := ∃ (left found : List Nat) (x : Option D), γ = [some (L l), some y, some z, w, some (L left), some (L found), x] ∧ found ++ nthF (l.length - i) left (n % fct (l.length - i)) = nthF l.length l (n % fct l.length) ∧ left.length = l.length - i ∧ found.length = i
theorem oat_E (l : List Nat) (n : Nat) (hl : l.length ≤ 100000) : F_order_at [L l, .int n] = .ok (L (nthF l.length l (n % fct l.length))) := by
  simp (disch := trivial) [F_order_at, callS_eq, g_order_at, rg2_E]
  generalize hf : forS _ _ _ _ = o
  obtain ⟨γ', rfl, ds, x, rfl, h1⟩ := for_F hf (PO1 l n) ⟨[], none, by simp [fct], rfl⟩ (by
    rintro i hi γ ⟨ds, x, rfl, h1⟩
    refine ⟨_, rfl, ?_⟩
    have hlen : ds.length < 1000000 := by rw [h1]; simp; omega
    have hm : modD (.int (n / fct i : Nat)) (.int (1 + i)) = some (.int (n / fct i % (i + 1) : Nat)) := by
      rw [show (1 : Int) + i = ((i + 1 : Nat) : Int) by omega, modD_int (by omega), ← Int.natCast_emod]
    have hd : fdivWD (.int (n / fct i : Nat)) (.int (1 + i)) = some (.int (n / fct (i + 1) : Nat)) := by
      rw [show (1 : Int) + i = ((i + 1 : Nat) : Int) by omega, fdivW_int (by omega) (by omega), ← Int.natCast_ediv, div_fct]
    have hs : ds ++ [n / fct i % (i + 1)] = (List.range (i + 1)).map fun k => n / fct k % (k + 1) := by
      rw [List.range_succ, List.map_append, h1]
      rfl
    unfold PO1
    generalize n / fct i % (i + 1) = a at *
    generalize n / fct (i + 1) = b at *
    generalize n / fct i = c at *
    simp [appS_E, hlen, hm, hd]
    rw [hs])
  rw [show ((l.length : Int) + 1 - 1).toNat = l.length by omega] at *
  simp
  generalize hf2 : forS _ _ _ _ = o2
  obtain ⟨γ', rfl, left, found, y, rfl, h2, h3, h4⟩ := for_E hf2 (PO2 l n _ _ _) ⟨l, [], none, rfl, by simp, by simp, rfl⟩ (by
    rintro i hi γ ⟨left, found, y, rfl, h2, h3, h4⟩
    rw [List.length_reverse, h1, List.length_map, List.length_range] at hi
    have e1 : ds.reverse[i]'(by rw [List.length_reverse, h1]; simpa using hi) = n / fct (l.length - 1 - i) % (l.length - i) := by
      subst h1
      simp
      rw [show l.length - 1 - i + 1 = l.length - i by omega]
    refine ⟨_, rfl, ?_⟩
    rw [e1]
    obtain ⟨m, hm⟩ : ∃ m, l.length - i = m + 1 := ⟨l.length - i - 1, by omega⟩
    have hp := fct_pos m
    rw [hm] at h2 h3 ⊢
    rw [show l.length - 1 - i = m by omega]
    have e2 : n % fct (m + 1) / fct m = n / fct m % (m + 1) := by
      rw [show fct (m + 1) = fct m * (m + 1) from Nat.mul_comm _ _, Nat.mod_mul_right_div_self]
    have e3 : n % fct (m + 1) % fct m = n % fct m := Nat.mod_mod_of_dvd _ ⟨m + 1, Nat.mul_comm _ _⟩
    rw [show nthF (m + 1) left (n % fct (m + 1)) = left.getD (n % fct (m + 1) / fct m) 0 :: nthF m (left.eraseIdx (n % fct (m + 1) / fct m)) (n % fct (m + 1) % fct m) from rfl] at h2
    rw [e2, e3] at h2
    have hq := Nat.mod_lt (n / fct m) (show 0 < m + 1 by omega)
    have hix := ixD_L left ((n / fct m % (m + 1) : Nat) : Int) (by omega)
    rw [gt_nat, dflt_nat] at hix
    have hei : left.eraseIdx (n / fct m % (m + 1)) = left.take (n / fct m % (m + 1)) ++ left.drop (n / fct m % (m + 1) + 1) := List.eraseIdx_eq_take_drop_succ ..
    have hlen2 : (left.eraseIdx (n / fct m % (m + 1))).length = m := by rw [List.length_eraseIdx_of_lt (by omega)]; omega
    rw [hei] at h2 hlen2
    generalize left.getD (n / fct m % (m + 1)) 0 = v at *
    generalize n / fct m % (m + 1) = q at *
    have c1 := cutD_toE left q (by omega)
    have c2 := cutD_fromE left ((q : Int) + 1) (by omega)
    rw [Int.toNat_natCast] at c1
    rw [show ((q : Int) + 1).toNat = q + 1 by omega] at c2
    have ha := addD_L (left.take q) (left.drop (q + 1)) (by rw [← List.length_append, hlen2]; omega)
    have hfl : found.length < 1000000 := by omega
    rw [E_nat] at hix
    simp [appS_E, hix, c1, c2, ha, hfl]
    refine ⟨_, _, _, rfl, ?_, by rw [hlen2]; omega, by simp; omega⟩
    rw [show l.length - (i + 1) = m by omega]
    simpa using h2)
  simp
  rw [List.length_reverse, h1, List.length_map, List.length_range, Nat.sub_self] at h2
  have : nthF 0 left (n % fct 0) = [] := rfl
  rw [this, List.append_nil] at h2
  rw [h2]
/-! rising_of -/
def PRi (o g : List Nat) (i : Nat) (γ : Env) : Prop := ∃ x, γ = [some (L o), some (L g), some (L (ris g i)), x]
theorem ris_E {o : List Nat} {n : Nat} (h : IsP o n) (hn : n < 100000) : F_rising_of [L o] = .ok (L (ris (invO o) n)) := by
  have hg := h.inv
  have hb := bk_E h (by omega)
  generalize invO o = g at *
  simp (disch := trivial) [F_rising_of, callS_eq, g_rising_of, hb, h.len, rg1_E]
  generalize hf : forS _ _ _ _ = out
  obtain ⟨γ', rfl, x, rfl⟩ := for_R hf (PRi o g) ⟨none, rfl⟩ (by
    rintro i hi γ ⟨x, rfl⟩
    refine ⟨_, rfl, ?_⟩
    have hl := ris_len g i
    have hll : (ris g i).length < 1000000 := by omega
    have i1 := ixD_L g i (by rw [hg.len]; omega)
    rw [gt_nat, dflt_nat, E_nat] at i1
    by_cases h0 : 0 < i
    · have i2 := ixD_L g ((i : Int) - 1) (by rw [hg.len]; omega)
      rw [show (i : Int) - 1 = ((i - 1 : Nat) : Int) by omega, gt_nat, dflt_nat, E_nat] at i2
      rw [show ((i - 1 : Nat) : Int) = (i : Int) - 1 by omega] at i2
      have hp := List.length_pos_iff.mpr (ris_ne g i h0)
      by_cases hc : g.getD (i - 1) 0 < g.getD i 0
      · have e : ris g (i + 1) = (ris g i).set ((ris g i).length - 1) ((ris g i).getD ((ris g i).length - 1) [] ++ [i]) := if_pos ⟨h0, hc⟩
        have hj := ixJ_last (ris g i) hp
        have hr : ((ris g i).getD ((ris g i).length - 1) []).length < 1000000 := by
          have := ris_item g i ((ris g i).getD ((ris g i).length - 1) []) (by
            rw [List.getD_eq_getElem?_getD, List.getElem?_eq_getElem (by omega)]
            exact List.getElem_mem _)
          omega
        unfold PRi
        rw [e]
        generalize (ris g i).getD ((ris g i).length - 1) [] = last at *
        generalize (ris g i).length - 1 = k at *
        generalize ris g i = r at *
        generalize g.getD (i - 1) 0 = a at *
        generalize g.getD i 0 = b at *
        simp [h0, i1, i2, hc, appInS_eq, hj, hr]
      · have e : ris g (i + 1) = ris g i ++ [[i]] := if_neg fun z => hc z.2
        unfold PRi
        rw [e]
        generalize ris g i = r at *
        generalize g.getD (i - 1) 0 = a at *
        generalize g.getD i 0 = b at *
        simp [h0, i1, i2, hc, appS_E, hll, Lc1]
    · have e : ris g (i + 1) = ris g i ++ [[i]] := if_neg fun z => h0 z.1
      unfold PRi
      rw [e]
      generalize ris g i = r at *
      simp [h0, appS_E, hll, Lc1])
  simp
end DL
set_option Elab.async false
set_option linter.all false
set_option maxRecDepth 100000
set_option maxHeartbeats 8000000

/-! What the defs of the text compute, on data (printed by gen.py). -/
namespace DL
open PySem PySem.Spec PyProof.Rows L2


abbrev errs_k11 : List Str := ["OutOfRange", "NotOrder"]
/-- combinations(n, k): n, k, count, at -/
def g_combinations : Env → Out := seqS (ifS (tOr' (b1 (b2 (eV 1) (eC (.int 0)) ltD) boolO) (b1 (b2 (eV 1) (eV 0) gtD) boolO)) (sRet (eC (.int 0))) (sNx)) (seqS (sSet 2 (eC (.int 1))) (seqS (sFor (cB (aC (cB (aC (eV 1) (aC (b2 (eV 0) (eV 1) subD) (aN))) minD) (aN)) rg1) (tgN 3) (sSet 2 (b2 (b2 (eV 2) (b2 (eV 0) (eV 3) subD) mulD) (b2 (eV 3) (eC (.int 1)) addD) fdivWD))) (sRet (eV 2))))
def F_combinations : List D → Rs D := callS 4 g_combinations
/-- power_of_two(n): n -/
def g_power_of_two : Env → Out := sRet (b2 (eC (.int 1)) (eV 0) shlD)
def F_power_of_two : List D → Rs D := callS 1 g_power_of_two
/-- is_riffle(order): order -/
def g_is_riffle : Env → Out := seqS (sEx (cF 1 (aC (eV 0) (aN)) F_check_order)) (sRet (b2 (cB (aC (cF 1 (aC (eV 0) (aN)) F_rising_of) (aN)) lenD) (eC (.int 2)) leD))
def F_is_riffle : List D → Rs D := callS 1 g_is_riffle
/-- riffles_needed(order): order, count -/
def g_riffles_needed : Env → Out := seqS (sEx (cF 1 (aC (eV 0) (aN)) F_check_order)) (seqS (sSet 1 (eC (.int 0))) (seqS (sWh (b1 (b2 (cF 1 (aC (eV 1) (aN)) F_power_of_two) (cB (aC (cF 1 (aC (eV 0) (aN)) F_rising_of) (aN)) lenD) ltD) boolO) (sAug 1 (eC (.int 1)) addA)) (sRet (eV 1))))
def F_riffles_needed : List D → Rs D := callS 2 g_riffles_needed
/-- riffles_of(n): n -/
def g_riffles_of : Env → Out := sRet (eIf (b1 (b2 (eV 0) (eC (.int 0)) gtD) boolO) (b2 (cF 1 (aC (eV 0) (aN)) F_power_of_two) (eV 0) subD) (eC (.int 1)))
def F_riffles_of : List D → Rs D := callS 1 g_riffles_of
/-- count_riffles(cards): cards -/
def g_count_riffles : Env → Out := seqS (sEx (cF 3 (aC (eV 0) (aC (eC (.int 1)) (aC (eC (.int 200)) (aN)))) F_check_between)) (sRet (cF 1 (aC (eV 0) (aN)) F_riffles_of))
def F_count_riffles : List D → Rs D := callS 1 g_count_riffles
/-- merged_at(upper, lower, n): upper, lower, n, found, one, other, count -/
def g_merged_at : Env → Out := seqS (sNew 3 (nL (aN))) (seqS (sUnp (tgT 2 (tgCons (tgN 4) (tgCons (tgN 5) (tgNil)))) (eT (aC (eC (.int 0)) (aC (eC (.int 0)) (aN))))) (seqS (sWh (tAnd' (b1 (b2 (eV 4) (cB (aC (eV 0) (aN)) lenD) ltD) boolO) (b1 (b2 (eV 5) (cB (aC (eV 1) (aN)) lenD) ltD) boolO)) (seqS (sSet 6 (cF 2 (aC (b2 (b2 (b2 (b2 (cB (aC (eV 0) (aN)) lenD) (eV 4) subD) (eC (.int 1)) subD) (cB (aC (eV 1) (aN)) lenD) addD) (eV 5) subD) (aC (b2 (cB (aC (eV 1) (aN)) lenD) (eV 5) subD) (aN))) F_combinations)) (ifS (b1 (b2 (eV 2) (eV 6) ltD) boolO) (seqS (appS 3 (b2 (eV 0) (eV 4) ixD)) (sAug 4 (eC (.int 1)) addA)) (seqS (sAug 2 (eV 6) subD) (seqS (appS 3 (b2 (eV 1) (eV 5) ixD)) (sAug 5 (eC (.int 1)) addA)))))) (sRet (b2 (b2 (eV 3) (eCut (eV 0) (oS (eV 4)) (oN)) addD) (eCut (eV 1) (oS (eV 5)) (oN)) addD))))
def F_merged_at : List D → Rs D := callS 7 g_merged_at
/-- nth_riffle(cards, n): cards, n, start, count, cut, rest -/
def g_nth_riffle : Env → Out := seqS (sEx (cF 3 (aC (eV 0) (aC (eC (.int 1)) (aC (eC (.int 200)) (aN)))) F_check_between)) (seqS (ifS (tOr' (b1 (b2 (eV 1) (eC (.int 0)) ltD) boolO) (b1 (b2 (eV 1) (cF 1 (aC (eV 0) (aN)) F_riffles_of) geD) boolO)) (sRa ("OutOfRange" : Str) [("value" : Str)] ("OutOfRange" : Str) (aC (eV 1) (aN))) (sNx)) (seqS (sFor (cB (aC (eV 0) (aN)) rg1) (tgN 2) (seqS (sSet 3 (cF 1 (aC (b2 (b2 (eV 0) (eV 2) subD) (eC (.int 1)) subD) (aN)) F_riffles_of)) (ifS (b1 (b2 (eV 1) (eV 3) geD) boolO) (seqS (sAug 1 (eV 3) subD) (sFor (cB (aC (b2 (eV 2) (eC (.int 1)) addD) (aC (eV 0) (aN))) rg2) (tgN 4) (seqS (sSet 3 (cF 2 (aC (b2 (b2 (eV 0) (eC (.int 1)) subD) (eV 2) subD) (aC (b2 (eV 4) (eV 2) subD) (aN))) F_combinations)) (seqS (ifS (b1 (b2 (eV 1) (eV 3) ltD) boolO) (seqS (sSet 5 (cF 3 (aC (eL (b2 (eV 2) (eV 4) rgL2)) (aC (eL (b2 (b2 (eV 4) (eC (.int 1)) addD) (eV 0) rgL2)) (aC (eV 1) (aN)))) F_merged_at)) (sRet (b2 (b2 (eL (b1 (eV 2) rgL1)) (eL (nL (aC (eV 4) (aN)))) addD) (eV 5) addD))) (sNx)) (sAug 1 (eV 3) subD))))) (sNx)))) (sRet (eL (b1 (eV 0) rgL1)))))
def F_nth_riffle : List D → Rs D := callS 6 g_nth_riffle
/-- is_spread(order): order, card, low, high -/
def g_is_spread : Env → Out := seqS (sUnp (tgT 2 (tgCons (tgN 2) (tgCons (tgN 3) (tgNil)))) (eIf (b1 (b2 (cB (aC (eV 0) (aN)) lenD) (eC (.int 0)) gtD) boolO) (eT (aC (b2 (eV 0) (eC (.int 0)) ixD) (aC (b2 (eV 0) (eC (.int 0)) ixD) (aN)))) (eT (aC (eC (.int 0)) (aC (eC (.int 0)) (aN)))))) (seqS (sFor (b1 (eCut (eV 0) (oS (eC (.int 1))) (oN)) lstO) (tgN 1) (ifS (b1 (b2 (eV 1) (b2 (eV 2) (eC (.int 1)) subD) eqD) boolO) (sSet 2 (eV 1)) (ifS (b1 (b2 (eV 1) (b2 (eV 3) (eC (.int 1)) addD) eqD) boolO) (sSet 3 (eV 1)) (sRet (eC (.bool false)))))) (sRet (eC (.bool true))))
def F_is_spread : List D → Rs D := callS 4 g_is_spread
/-- is_gilbreath(order): order -/
def g_is_gilbreath : Env → Out := seqS (sEx (cF 1 (aC (eV 0) (aN)) F_check_order)) (sRet (cF 1 (aC (eV 0) (aN)) F_is_spread))
def F_is_gilbreath : List D → Rs D := callS 1 g_is_gilbreath
/-- gilbreaths_of(n): n -/
def g_gilbreaths_of : Env → Out := sRet (eIf (b1 (b2 (eV 0) (eC (.int 0)) gtD) boolO) (cF 1 (aC (b2 (eV 0) (eC (.int 1)) subD) (aN)) F_power_of_two) (eC (.int 1)))
def F_gilbreaths_of : List D → Rs D := callS 1 g_gilbreaths_of
/-- count_gilbreath(cards): cards -/
def g_count_gilbreath : Env → Out := seqS (sEx (cF 3 (aC (eV 0) (aC (eC (.int 1)) (aC (eC (.int 200)) (aN)))) F_check_between)) (sRet (cF 1 (aC (eV 0) (aN)) F_gilbreaths_of))
def F_count_gilbreath : List D → Rs D := callS 1 g_count_gilbreath
/-- nth_gilbreath(cards, n): cards, n, first -/
def g_nth_gilbreath : Env → Out := seqS (sEx (cF 3 (aC (eV 0) (aC (eC (.int 1)) (aC (eC (.int 200)) (aN)))) F_check_between)) (seqS (ifS (tOr' (b1 (b2 (eV 1) (eC (.int 0)) ltD) boolO) (b1 (b2 (eV 1) (cF 1 (aC (eV 0) (aN)) F_gilbreaths_of) geD) boolO)) (sRa ("OutOfRange" : Str) [("value" : Str)] ("OutOfRange" : Str) (aC (eV 1) (aN))) (sNx)) (seqS (sSet 2 (eC (.int 0))) (seqS (sWh (b1 (b2 (eV 1) (cF 2 (aC (b2 (eV 0) (eC (.int 1)) subD) (aC (eV 2) (aN))) F_combinations) geD) boolO) (seqS (sAug 1 (cF 2 (aC (b2 (eV 0) (eC (.int 1)) subD) (aC (eV 2) (aN))) F_combinations) subD) (sAug 2 (eC (.int 1)) addA))) (sRet (b2 (eL (nL (aC (eV 2) (aN)))) (cF 3 (aC (eL (b1 (eL (b1 (eV 2) rgL1)) revLD)) (aC (eL (b2 (b2 (eV 2) (eC (.int 1)) addD) (eV 0) rgL2)) (aC (eV 1) (aN)))) F_merged_at) addD)))))
def F_nth_gilbreath : List D → Rs D := callS 3 g_nth_gilbreath
/-- rank_gilbreath(order): order, rank, card, low, high, first -/
def g_rank_gilbreath : Env → Out := seqS (sEx (cF 1 (aC (eV 0) (aN)) F_check_order)) (seqS (ifS (tNot' (b1 (cF 1 (aC (eV 0) (aN)) F_is_spread) truD)) (sRet (eC .none)) (sNx)) (seqS (ifS (b1 (b2 (cB (aC (eV 0) (aN)) lenD) (eC (.int 0)) eqD) boolO) (sRet (eC (.int 0))) (sNx)) (seqS (sSet 1 (cB (aC (eL (nLc [5] (cB (aC (b2 (eV 0) (eC (.int 0)) ixD) (aN)) rg1) (tgN 5) (tsYes) (cF 2 (aC (b2 (cB (aC (eV 0) (aN)) lenD) (eC (.int 1)) subD) (aC (eV 5) (aN))) F_combinations))) (aN)) sumD)) (seqS (sPar 3 4 (aC (b2 (eV 0) (eC (.int 0)) ixD) (aC (b2 (b2 (cB (aC (eV 0) (aN)) lenD) (eC (.int 1)) subD) (b2 (eV 0) (eC (.int 0)) ixD) subD) (aN)))) (seqS (sFor (b1 (eCut (eV 0) (oS (eC (.int 1))) (oN)) lstO) (tgN 2) (ifS (b1 (b2 (eV 2) (b2 (eV 0) (eC (.int 0)) ixD) ltD) boolO) (sAug 3 (eC (.int 1)) subD) (seqS (sAug 1 (eIf (b1 (b2 (eV 3) (eC (.int 0)) gtD) boolO) (cF 2 (aC (b2 (b2 (eV 3) (eC (.int 1)) subD) (eV 4) addD) (aC (eV 4) (aN))) F_combinations) (eC (.int 0))) addA) (sAug 4 (eC (.int 1)) subD)))) (sRet (eV 1)))))))
def F_rank_gilbreath : List D → Rs D := callS 6 g_rank_gilbreath
/-- gilbreath_cut(order): order -/
def g_gilbreath_cut : Env → Out := seqS (sEx (cF 1 (aC (eV 0) (aN)) F_check_order)) (seqS (ifS (tNot' (b1 (cF 1 (aC (eV 0) (aN)) F_is_spread) truD)) (sRet (eC .none)) (sNx)) (sRet (eIf (b1 (b2 (cB (aC (eV 0) (aN)) lenD) (eC (.int 0)) gtD) boolO) (b2 (eV 0) (eC (.int 0)) ixD) (eC (.int 0)))))
def F_gilbreath_cut : List D → Rs D := callS 1 g_gilbreath_cut
/-- lists_of(size, count): size, count, lists, place, one -/
def g_lists_of : Env → Out := seqS (sSet 2 (eL (nL (aC (eL (nL (aN))) (aN))))) (seqS (sFor (cB (aC (eV 0) (aN)) rg1) (tgN 3) (sSet 2 (b2 (eV 2) (eL (nLc [4] (b1 (eV 2) lstO) (tgN 4) (tsYes) (b2 (eV 4) (eL (nL (aC (eV 3) (aN)))) addD))) addD))) (sRet (eL (cB (aC (eL (nLc [4] (b1 (eV 2) lstO) (tgN 4) (tOr' (b1 (b1 (eV 1) fun d => some (.bool (isNoneD d))) boolO) (b1 (b2 (cB (aC (eV 4) (aN)) lenD) (eV 1) eqD) boolO)) (eV 4))) (aN)) srtM))))
def F_lists_of : List D → Rs D := callS 5 g_lists_of
/-- laid(upper, lower, places): upper, lower, places, told, found, place, one, other -/
def g_laid : Env → Out := seqS (sSetDc 3 [5] (b1 (eV 2) lstO) (tgN 5) (tsYes) (eV 5) (eC (.bool true))) (seqS (sNew 4 (nL (aN))) (seqS (sUnp (tgT 2 (tgCons (tgN 6) (tgCons (tgN 7) (tgNil)))) (eT (aC (eC (.int 0)) (aC (eC (.int 0)) (aN))))) (seqS (sFor (cB (aC (b2 (cB (aC (eV 0) (aN)) lenD) (cB (aC (eV 1) (aN)) lenD) addD) (aN)) rg1) (tgN 5) (ifS (b1 (eDin val3 false 3 (eV 5)) boolO) (seqS (appS 4 (b2 (eV 0) (eV 6) ixD)) (sAug 6 (eC (.int 1)) addA)) (seqS (appS 4 (b2 (eV 1) (eV 7) ixD)) (sAug 7 (eC (.int 1)) addA)))) (sRet (cB (aC (eV 4) (aN)) tplD)))))
def F_laid : List D → Rs D := callS 8 g_laid
/-- made_orders(n, way): n, way, cards, found, count, upper, places, order, at -/
def g_made_orders : Env → Out := seqS (sSet 2 (eL (b1 (eV 0) rgL1))) (seqS (sDnew 3) (seqS (sFor (cB (aC (b2 (eV 0) (eC (.int 1)) addD) (aN)) rg1) (tgN 4) (seqS (sSet 5 (eIf (b1 (eM1 (eV 1) (eC (.str "gilbreath")) stwD) truD) (eL (b1 (eCut (eV 2) (oN) (oS (eV 4))) revLD)) (eCut (eV 2) (oN) (oS (eV 4))))) (sFor (b1 (cF 2 (aC (eV 0) (aC (eV 4) (aN))) F_lists_of) lstO) (tgN 6) (dputS put4D 3 (eC (.bool true)) (cF 3 (aC (eV 5) (aC (eCut (eV 2) (oS (eV 4)) (oN)) (aC (eV 6) (aN)))) F_laid))))) (seqS (ifS (b1 (b2 (eV 1) (eC (.str "gilbreath cut")) eqD) boolO) (sNo) (sNx)) (sRet (eL (nLc [7] (b1 (eL (cB (aC (eL (cB (aC (eV 3) (aN)) lstKD)) (aN)) srtM)) lstO) (tgN 7) (tsYes) (eL (cB (aC (eV 7) (aN)) lstD))))))))
def F_made_orders : List D → Rs D := callS 9 g_made_orders
/-- all_orders(n): n, at -/
def g_all_orders : Env → Out := sRet (eL (nLc [1] (cB (aC (cF 1 (aC (eV 0) (aN)) F_factorial) (aN)) rg1) (tgN 1) (tsYes) (cF 2 (aC (eL (b1 (eV 0) rgL1)) (aC (eV 1) (aN))) F_order_at)))
def F_all_orders : List D → Rs D := callS 2 g_all_orders
/-- check_gilbreath(cards): cards, good, order -/
def g_check_gilbreath : Env → Out := seqS (sEx (cF 3 (aC (eV 0) (aC (eC (.int 1)) (aC (eC (.int 7)) (aN)))) F_check_between)) (seqS (sNew 1 (nLc [2] (b1 (cF 1 (aC (eV 0) (aN)) F_all_orders) lstO) (tgN 2) (b1 (cF 1 (aC (eV 2) (aN)) F_is_spread) truD) (eV 2))) (sRet (eAnd (b2 (eV 1) (cF 2 (aC (eV 0) (aC (eC (.str "gilbreath")) (aN))) F_made_orders) eqD) (b2 (cB (aC (eV 1) (aN)) lenD) (cF 1 (aC (eV 0) (aN)) F_gilbreaths_of) eqD))))
def F_check_gilbreath : List D → Rs D := callS 3 g_check_gilbreath
/-- _law_told(way, a, b): way, a, b, e -/
def g__law_told : Env → Out := tryS errs_k11 (seqS (ifS (b1 (b2 (eV 0) (eC (.int 0)) eqD) boolO) (sRet (eT (aC (eC (.str "value")) (aC (cF 1 (aC (eV 1) (aN)) F_is_riffle) (aN))))) (sNx)) (seqS (ifS (b1 (b2 (eV 0) (eC (.int 1)) eqD) boolO) (sRet (eT (aC (eC (.str "value")) (aC (cF 1 (aC (eV 1) (aN)) F_riffles_needed) (aN))))) (sNx)) (seqS (ifS (b1 (b2 (eV 0) (eC (.int 2)) eqD) boolO) (sRet (eT (aC (eC (.str "value")) (aC (cF 2 (aC (eV 1) (aC (eV 2) (aN))) F_nth_riffle) (aN))))) (sNx)) (seqS (ifS (b1 (b2 (eV 0) (eC (.int 3)) eqD) boolO) (sRet (eT (aC (eC (.str "value")) (aC (cF 1 (aC (eV 1) (aN)) F_is_gilbreath) (aN))))) (sNx)) (seqS (ifS (b1 (b2 (eV 0) (eC (.int 4)) eqD) boolO) (sRet (eT (aC (eC (.str "value")) (aC (cF 2 (aC (eV 1) (aC (eV 2) (aN))) F_nth_gilbreath) (aN))))) (sNx)) (seqS (ifS (b1 (b2 (eV 0) (eC (.int 5)) eqD) boolO) (sRet (eT (aC (eC (.str "value")) (aC (cF 1 (aC (eV 1) (aN)) F_rank_gilbreath) (aN))))) (sNx)) (seqS (ifS (b1 (b2 (eV 0) (eC (.int 6)) eqD) boolO) (sRet (eT (aC (eC (.str "value")) (aC (cF 1 (aC (eV 1) (aN)) F_gilbreath_cut) (aN))))) (sNx)) (seqS (ifS (b1 (b2 (eV 0) (eC (.int 7)) eqD) boolO) (sRet (eT (aC (eC (.str "value")) (aC (cF 1 (aC (eV 1) (aN)) F_count_riffles) (aN))))) (sNx)) (sRet (eT (aC (eC (.str "value")) (aC (cF 1 (aC (eV 1) (aN)) F_count_gilbreath) (aN))))))))))))) ((("NotOrder" : Str), none, fun fs => sRet (eT (aC (eC (.str "order")) (aC (eC (.int 0)) (aN))))) :: (("OutOfRange" : Str), some 3, fun fs => sRet (eT (aC (eC (.str "range")) (aC (fun _ => oR (fs.lookup ("value" : Str))) (aN))))) :: (("TrickError" : Str), none, fun fs => sRet (eT (aC (eC (.str "other")) (aC (eC (.int 0)) (aN))))) :: [])
def F__law_told : List D → Rs D := callS 4 g__law_told
/-- _law_laid(upper, lower): upper, lower, rows, size, turn, longer, row, taken, rest, card -/
def g__law_laid : Env → Out := seqS (sSet 2 (eL (nL (aC (eL (nL (aN))) (aN))))) (seqS (sSet 3 (b2 (cB (aC (eV 0) (aN)) lenD) (cB (aC (eV 1) (aN)) lenD) addD)) (seqS (sFor (cB (aC (eV 3) (aN)) rg1) (tgN 4) (seqS (sNew 5 (nL (aN))) (seqS (sFor (b1 (eV 2) lstO) (tgN 6) (seqS (sSet 7 (cB (aC (eL (nLc [9] (b1 (eV 6) lstO) (tgN 9) (b1 (b2 (eV 9) (eV 0) (inD false)) boolO) (eV 9))) (aN)) lenD)) (seqS (sSet 8 (b2 (cB (aC (eV 6) (aN)) lenD) (eV 7) subD)) (seqS (ifS (b1 (b2 (eV 7) (cB (aC (eV 0) (aN)) lenD) ltD) boolO) (appS 5 (b2 (eV 6) (eL (nL (aC (b2 (eV 0) (eV 7) ixD) (aN)))) addD)) (sNx)) (ifS (b1 (b2 (eV 8) (cB (aC (eV 1) (aN)) lenD) ltD) boolO) (appS 5 (b2 (eV 6) (eL (nL (aC (b2 (eV 1) (eV 8) ixD) (aN)))) addD)) (sNx)))))) (sSet 2 (eV 5))))) (sRet (eV 2))))
def F__law_laid : List D → Rs D := callS 10 g__law_laid
/-- _law_all(size, turned): size, turned, found, k, upper, row, card -/
def g__law_all : Env → Out := seqS (sNew 2 (nL (aN))) (seqS (sFor (cB (aC (b2 (eV 0) (eC (.int 1)) addD) (aN)) rg1) (tgN 3) (seqS (sNew 4 (nLc [6] (cB (aC (eV 3) (aN)) rg1) (tgN 6) (tsYes) (eV 6))) (seqS (ifS (b1 (eV 1) truD) (sNew 4 (nLc [6] (cB (aC (eV 3) (aN)) rg1) (tgN 6) (tsYes) (b2 (b2 (eV 3) (eC (.int 1)) subD) (eV 6) subD))) (sNx)) (sFor (b1 (cF 2 (aC (eV 4) (aC (eL (nLc [6] (cB (aC (eV 3) (aC (eV 0) (aN))) rg2) (tgN 6) (tsYes) (eV 6))) (aN))) F__law_laid) lstO) (tgN 5) (ifS (b1 (b2 (eV 5) (eV 2) (inD true)) boolO) (appS 2 (eV 5)) (sNx)))))) (sRet (eL (cB (aC (eV 2) (aN)) srtM))))
def F__law_all : List D → Rs D := callS 7 g__law_all
/-- _law_needed(order): order, rising_of_v, need, power, turn, card -/
def g__law_needed : Env → Out := seqS (sSet 1 (b2 (eC (.int 1)) (cB (aC (eL (nLc [5] (cB (aC (eC (.int 1)) (aC (cB (aC (eV 0) (aN)) lenD) (aN))) rg2) (tgN 5) (b1 (b2 (eIdx (eV 0) (aC (eV 5) (aN))) (eIdx (eV 0) (aC (b2 (eV 5) (eC (.int 1)) subD) (aN))) ltD) boolO) (eV 5))) (aN)) lenD) addD)) (seqS (sSet 2 (eC (.int 0))) (seqS (sSet 3 (eC (.int 1))) (seqS (sFor (cB (aC (eC (.int 10)) (aN)) rg1) (tgN 4) (ifS (b1 (b2 (eV 3) (eV 1) ltD) boolO) (seqS (sSet 3 (b2 (eC (.int 2)) (eV 3) mulD)) (sSet 2 (b2 (eV 2) (eC (.int 1)) addD))) (sNx))) (sRet (eV 2)))))
def F__law_needed : List D → Rs D := callS 6 g__law_needed
/-- law(script): script, size, riffled, dealt, order, told, rank, cut_at, n, m, wide, whole, turn, spot, great, k, card -/
def t_law_0 : Env → Out := sSet 1 (b2 (eC (.int 1)) (b2 (cB (aC (cF 2 (aC (eV 0) (aC (eC (.int 0)) (aN))) F__law_cell) (aN)) intD) (eC (.int 6)) modD) addD)
def t_law_1 : Env → Out := sSet 2 (cF 2 (aC (eV 1) (aC (eC (.bool false)) (aN))) F__law_all)
def t_law_2 : Env → Out := sSet 3 (cF 2 (aC (eV 1) (aC (eC (.bool true)) (aN))) F__law_all)
def t_law_3 : Env → Out := sSet 4 (cF 2 (aC (cB (aC (cF 2 (aC (eV 0) (aC (eC (.int 1)) (aN))) F__law_cell) (aN)) absD) (aC (eV 1) (aN))) F__law_of_size)
def t_law_4 : Env → Out := ifS (b1 (b2 (b2 (cB (aC (cF 2 (aC (eV 0) (aC (eC (.int 2)) (aN))) F__law_cell) (aN)) intD) (eC (.int 3)) modD) (eC (.int 1)) eqD) boolO) (sSet 4 (b2 (eV 2) (b2 (cB (aC (cF 2 (aC (eV 0) (aC (eC (.int 1)) (aN))) F__law_cell) (aN)) intD) (cB (aC (eV 2) (aN)) lenD) modD) ixD)) (sNx)
def t_law_5 : Env → Out := ifS (b1 (b2 (b2 (cB (aC (cF 2 (aC (eV 0) (aC (eC (.int 2)) (aN))) F__law_cell) (aN)) intD) (eC (.int 3)) modD) (eC (.int 2)) eqD) boolO) (sSet 4 (b2 (eV 3) (b2 (cB (aC (cF 2 (aC (eV 0) (aC (eC (.int 1)) (aN))) F__law_cell) (aN)) intD) (cB (aC (eV 3) (aN)) lenD) modD) ixD)) (sNx)
def t_law_6 : Env → Out := sSet 5 (cF 3 (aC (eC (.int 0)) (aC (eL (cB (aC (eV 4) (aN)) lstD)) (aC (eC (.int 0)) (aN)))) F__law_told)
def t_law_7 : Env → Out := ifS (tOr' (b1 (b2 (eV 5) (eT (aC (eC (.str "value")) (aC (b2 (eV 4) (eV 2) (inD false)) (aN)))) neD) boolO) (tOr' (tNot' (b1 (b1 (b2 (eV 5) (eC (.int 1)) ixD) (isiD "bool")) truD)) (b1 (b2 (cF 3 (aC (eC (.int 1)) (aC (eL (cB (aC (eV 4) (aN)) lstD)) (aC (eC (.int 0)) (aN)))) F__law_told) (eT (aC (eC (.str "value")) (aC (cF 1 (aC (eV 4) (aN)) F__law_needed) (aN)))) neD) boolO))) (sRet (eC (.bool false))) (sNx)
def t_law_8 : Env → Out := sSet 5 (cF 3 (aC (eC (.int 3)) (aC (eL (cB (aC (eV 4) (aN)) lstD)) (aC (eC (.int 0)) (aN)))) F__law_told)
def t_law_9 : Env → Out := ifS (tOr' (b1 (b2 (eV 5) (eT (aC (eC (.str "value")) (aC (b2 (eV 4) (eV 3) (inD false)) (aN)))) neD) boolO) (tNot' (b1 (b1 (b2 (eV 5) (eC (.int 1)) ixD) (isiD "bool")) truD))) (sRet (eC (.bool false))) (sNx)
def t_law_10 : Env → Out := sSet 6 (eC .none)
def t_law_11 : Env → Out := sSet 7 (eC .none)
def t_law_12 : Env → Out := ifS (b1 (b2 (eV 4) (eV 3) (inD false)) boolO) (seqS (sSet 6 (eIdx (eV 3) (aC (eV 4) (aN)))) (sFor (cB (aC (b2 (eV 1) (eC (.int 1)) addD) (aN)) rg1) (tgN 15) (ifS (tAnd' (b1 (b1 (eV 7) fun d => some (.bool (isNoneD d))) boolO) (b1 (b2 (eV 4) (cF 2 (aC (eL (nLc [16] (cB (aC (eV 15) (aN)) rg1) (tgN 16) (tsYes) (b2 (b2 (eV 15) (eC (.int 1)) subD) (eV 16) subD))) (aC (eL (nLc [16] (cB (aC (eV 15) (aC (eV 1) (aN))) rg2) (tgN 16) (tsYes) (eV 16))) (aN))) F__law_laid) (inD false)) boolO)) (sSet 7 (eV 15)) (sNx)))) (sNx)
def t_law_13 : Env → Out := ifS (tOr' (b1 (b2 (cF 3 (aC (eC (.int 5)) (aC (eL (cB (aC (eV 4) (aN)) lstD)) (aC (eC (.int 0)) (aN)))) F__law_told) (eT (aC (eC (.str "value")) (aC (eV 6) (aN)))) neD) boolO) (b1 (b2 (cF 3 (aC (eC (.int 6)) (aC (eL (cB (aC (eV 4) (aN)) lstD)) (aC (eC (.int 0)) (aN)))) F__law_told) (eT (aC (eC (.str "value")) (aC (eV 7) (aN)))) neD) boolO)) (sRet (eC (.bool false))) (sNx)
def t_law_14 : Env → Out := sSet 8 (b2 (cB (aC (cF 2 (aC (eV 0) (aC (eC (.int 3)) (aN))) F__law_cell) (aN)) intD) (cB (aC (eV 2) (aN)) lenD) modD)
def t_law_15 : Env → Out := ifS (tOr' (b1 (b2 (cF 3 (aC (eC (.int 2)) (aC (eV 1) (aC (eV 8) (aN)))) F__law_told) (eT (aC (eC (.str "value")) (aC (b2 (eV 2) (eV 8) ixD) (aN)))) neD) boolO) (tOr' (b1 (b2 (cF 3 (aC (eC (.int 7)) (aC (eV 1) (aC (eC (.int 0)) (aN)))) F__law_told) (eT (aC (eC (.str "value")) (aC (cB (aC (eV 2) (aN)) lenD) (aN)))) neD) boolO) (b1 (b2 (cF 3 (aC (eC (.int 2)) (aC (eV 1) (aC (cB (aC (eV 2) (aN)) lenD) (aN)))) F__law_told) (eT (aC (eC (.str "range")) (aC (cB (aC (eV 2) (aN)) lenD) (aN)))) neD) boolO))) (sRet (eC (.bool false))) (sNx)
def t_law_16 : Env → Out := sSet 9 (b2 (cB (aC (cF 2 (aC (eV 0) (aC (eC (.int 3)) (aN))) F__law_cell) (aN)) intD) (cB (aC (eV 3) (aN)) lenD) modD)
def t_law_17 : Env → Out := ifS (tOr' (b1 (b2 (cF 3 (aC (eC (.int 4)) (aC (eV 1) (aC (eV 9) (aN)))) F__law_told) (eT (aC (eC (.str "value")) (aC (b2 (eV 3) (eV 9) ixD) (aN)))) neD) boolO) (tOr' (b1 (b2 (cF 3 (aC (eC (.int 8)) (aC (eV 1) (aC (eC (.int 0)) (aN)))) F__law_told) (eT (aC (eC (.str "value")) (aC (cB (aC (eV 3) (aN)) lenD) (aN)))) neD) boolO) (b1 (b2 (cF 3 (aC (eC (.int 4)) (aC (eV 1) (aC (cB (aC (eV 3) (aN)) lenD) (aN)))) F__law_told) (eT (aC (eC (.str "range")) (aC (cB (aC (eV 3) (aN)) lenD) (aN)))) neD) boolO))) (sRet (eC (.bool false))) (sNx)
def t_law_18 : Env → Out := sSet 10 (b2 (eC (.int 1)) (b2 (cB (aC (cF 2 (aC (eV 0) (aC (eC (.int 4)) (aN))) F__law_cell) (aN)) intD) (eC (.int 200)) modD) addD)
def t_law_19 : Env → Out := sSet 11 (eC (.int 1))
def t_law_20 : Env → Out := sFor (cB (aC (eV 10) (aN)) rg1) (tgN 12) (sSet 11 (b2 (eC (.int 2)) (eV 11) mulD))
def t_law_21 : Env → Out := ifS (tOr' (b1 (b2 (cF 3 (aC (eC (.int 7)) (aC (eV 10) (aC (eC (.int 0)) (aN)))) F__law_told) (eT (aC (eC (.str "value")) (aC (b2 (eV 11) (eV 10) subD) (aN)))) neD) boolO) (b1 (b2 (cF 3 (aC (eC (.int 8)) (aC (eV 10) (aC (eC (.int 0)) (aN)))) F__law_told) (eT (aC (eC (.str "value")) (aC (b2 (eV 11) (eC (.int 2)) fdivWD) (aN)))) neD) boolO)) (sRet (eC (.bool false))) (sNx)
def t_law_22 : Env → Out := sSet 13 (b2 (cB (aC (cF 2 (aC (eV 0) (aC (eC (.int 5)) (aN))) F__law_cell) (aN)) intD) (b2 (eV 11) (eC (.int 2)) fdivWD) modD)
def t_law_23 : Env → Out := sSet 14 (cF 3 (aC (eC (.int 4)) (aC (eV 10) (aC (eV 13) (aN)))) F__law_told)
def t_law_24 : Env → Out := ifS (tOr' (b1 (b2 (b2 (eV 14) (eC (.int 0)) ixD) (eC (.str "value")) neD) boolO) (tOr' (b1 (b2 (cF 3 (aC (eC (.int 5)) (aC (b2 (eV 14) (eC (.int 1)) ixD) (aC (eC (.int 0)) (aN)))) F__law_told) (eT (aC (eC (.str "value")) (aC (eV 13) (aN)))) neD) boolO) (b1 (b2 (cF 3 (aC (eC (.int 3)) (aC (b2 (eV 14) (eC (.int 1)) ixD) (aC (eC (.int 0)) (aN)))) F__law_told) (eT (aC (eC (.str "value")) (aC (eC (.bool true)) (aN)))) neD) boolO))) (sRet (eC (.bool false))) (sNx)
def t_law_25 : Env → Out := ifS (b1 (b2 (cF 1 (aC (cB (aC (eV 1) (aC (eC (.int 5)) (aN))) minD) (aN)) F_check_gilbreath) (eC (.bool true)) (isB true)) boolO) (sRet (eC (.bool false))) (sNx)
def t_law_26 : Env → Out := ifS (tOr' (b1 (b2 (cF 3 (aC (eC (.int 2)) (aC (eC (.int 0)) (aC (b1 (eC (.int 1)) negD) (aN)))) F__law_told) (eT (aC (eC (.str "range")) (aC (eC (.int 0)) (aN)))) neD) boolO) (tOr' (b1 (b2 (cF 3 (aC (eC (.int 2)) (aC (eC (.int 201)) (aC (b1 (eC (.int 1)) negD) (aN)))) F__law_told) (eT (aC (eC (.str "range")) (aC (eC (.int 201)) (aN)))) neD) boolO) (tOr' (b1 (b2 (cF 3 (aC (eC (.int 2)) (aC (eC (.int 5)) (aC (b1 (eC (.int 1)) negD) (aN)))) F__law_told) (eT (aC (eC (.str "range")) (aC (b1 (eC (.int 1)) negD) (aN)))) neD) boolO) (b1 (b2 (cF 3 (aC (eC (.int 8)) (aC (eC (.int 0)) (aC (eC (.int 0)) (aN)))) F__law_told) (eT (aC (eC (.str "range")) (aC (eC (.int 0)) (aN)))) neD) boolO)))) (sRet (eC (.bool false))) (sNx)
def t_law_27 : Env → Out := sRet (eAnd (b2 (cF 3 (aC (eC (.int 0)) (aC (eL (nL (aC (eC (.int 0)) (aC (eC (.int 2)) (aN))))) (aC (eC (.int 0)) (aN)))) F__law_told) (eT (aC (eC (.str "order")) (aC (eC (.int 0)) (aN)))) eqD) (eAnd (b2 (cF 3 (aC (eC (.int 3)) (aC (eL (nL (aC (eC (.int 1)) (aN)))) (aC (eC (.int 0)) (aN)))) F__law_told) (eT (aC (eC (.str "order")) (aC (eC (.int 0)) (aN)))) eqD) (b2 (cF 3 (aC (eC (.int 6)) (aC (eL (nL (aC (eC (.int 0)) (aC (eC (.int 0)) (aN))))) (aC (eC (.int 0)) (aN)))) F__law_told) (eT (aC (eC (.str "order")) (aC (eC (.int 0)) (aN)))) eqD)))
def r_law_27 : Env → Out := t_law_27
def r_law_26 : Env → Out := seqS t_law_26 r_law_27
def r_law_25 : Env → Out := seqS t_law_25 r_law_26
def r_law_24 : Env → Out := seqS t_law_24 r_law_25
def r_law_23 : Env → Out := seqS t_law_23 r_law_24
def r_law_22 : Env → Out := seqS t_law_22 r_law_23
def r_law_21 : Env → Out := seqS t_law_21 r_law_22
def r_law_20 : Env → Out := seqS t_law_20 r_law_21
def r_law_19 : Env → Out := seqS t_law_19 r_law_20
def r_law_18 : Env → Out := seqS t_law_18 r_law_19
def r_law_17 : Env → Out := seqS t_law_17 r_law_18
def r_law_16 : Env → Out := seqS t_law_16 r_law_17
def r_law_15 : Env → Out := seqS t_law_15 r_law_16
def r_law_14 : Env → Out := seqS t_law_14 r_law_15
def r_law_13 : Env → Out := seqS t_law_13 r_law_14
def r_law_12 : Env → Out := seqS t_law_12 r_law_13
def r_law_11 : Env → Out := seqS t_law_11 r_law_12
def r_law_10 : Env → Out := seqS t_law_10 r_law_11
def r_law_9 : Env → Out := seqS t_law_9 r_law_10
def r_law_8 : Env → Out := seqS t_law_8 r_law_9
def r_law_7 : Env → Out := seqS t_law_7 r_law_8
def r_law_6 : Env → Out := seqS t_law_6 r_law_7
def r_law_5 : Env → Out := seqS t_law_5 r_law_6
def r_law_4 : Env → Out := seqS t_law_4 r_law_5
def r_law_3 : Env → Out := seqS t_law_3 r_law_4
def r_law_2 : Env → Out := seqS t_law_2 r_law_3
def r_law_1 : Env → Out := seqS t_law_1 r_law_2
def r_law_0 : Env → Out := seqS t_law_0 r_law_1
theorem r_law_0_eq (γ : Env) : r_law_0 γ = thn (t_law_0 γ) r_law_1 := seqS_thn _ _ _
theorem r_law_1_eq (γ : Env) : r_law_1 γ = thn (t_law_1 γ) r_law_2 := seqS_thn _ _ _
theorem r_law_2_eq (γ : Env) : r_law_2 γ = thn (t_law_2 γ) r_law_3 := seqS_thn _ _ _
theorem r_law_3_eq (γ : Env) : r_law_3 γ = thn (t_law_3 γ) r_law_4 := seqS_thn _ _ _
theorem r_law_4_eq (γ : Env) : r_law_4 γ = thn (t_law_4 γ) r_law_5 := seqS_thn _ _ _
theorem r_law_5_eq (γ : Env) : r_law_5 γ = thn (t_law_5 γ) r_law_6 := seqS_thn _ _ _
theorem r_law_6_eq (γ : Env) : r_law_6 γ = thn (t_law_6 γ) r_law_7 := seqS_thn _ _ _
theorem r_law_7_eq (γ : Env) : r_law_7 γ = thn (t_law_7 γ) r_law_8 := seqS_thn _ _ _
theorem r_law_8_eq (γ : Env) : r_law_8 γ = thn (t_law_8 γ) r_law_9 := seqS_thn _ _ _
theorem r_law_9_eq (γ : Env) : r_law_9 γ = thn (t_law_9 γ) r_law_10 := seqS_thn _ _ _
theorem r_law_10_eq (γ : Env) : r_law_10 γ = thn (t_law_10 γ) r_law_11 := seqS_thn _ _ _
theorem r_law_11_eq (γ : Env) : r_law_11 γ = thn (t_law_11 γ) r_law_12 := seqS_thn _ _ _
theorem r_law_12_eq (γ : Env) : r_law_12 γ = thn (t_law_12 γ) r_law_13 := seqS_thn _ _ _
theorem r_law_13_eq (γ : Env) : r_law_13 γ = thn (t_law_13 γ) r_law_14 := seqS_thn _ _ _
theorem r_law_14_eq (γ : Env) : r_law_14 γ = thn (t_law_14 γ) r_law_15 := seqS_thn _ _ _
theorem r_law_15_eq (γ : Env) : r_law_15 γ = thn (t_law_15 γ) r_law_16 := seqS_thn _ _ _
theorem r_law_16_eq (γ : Env) : r_law_16 γ = thn (t_law_16 γ) r_law_17 := seqS_thn _ _ _
theorem r_law_17_eq (γ : Env) : r_law_17 γ = thn (t_law_17 γ) r_law_18 := seqS_thn _ _ _
theorem r_law_18_eq (γ : Env) : r_law_18 γ = thn (t_law_18 γ) r_law_19 := seqS_thn _ _ _
theorem r_law_19_eq (γ : Env) : r_law_19 γ = thn (t_law_19 γ) r_law_20 := seqS_thn _ _ _
theorem r_law_20_eq (γ : Env) : r_law_20 γ = thn (t_law_20 γ) r_law_21 := seqS_thn _ _ _
theorem r_law_21_eq (γ : Env) : r_law_21 γ = thn (t_law_21 γ) r_law_22 := seqS_thn _ _ _
theorem r_law_22_eq (γ : Env) : r_law_22 γ = thn (t_law_22 γ) r_law_23 := seqS_thn _ _ _
theorem r_law_23_eq (γ : Env) : r_law_23 γ = thn (t_law_23 γ) r_law_24 := seqS_thn _ _ _
theorem r_law_24_eq (γ : Env) : r_law_24 γ = thn (t_law_24 γ) r_law_25 := seqS_thn _ _ _
theorem r_law_25_eq (γ : Env) : r_law_25 γ = thn (t_law_25 γ) r_law_26 := seqS_thn _ _ _
theorem r_law_26_eq (γ : Env) : r_law_26 γ = thn (t_law_26 γ) r_law_27 := seqS_thn _ _ _
def g_law : Env → Out := r_law_0
def F_law : List D → Rs D := callS 17 g_law
end DL
set_option Elab.async false
set_option linter.all false
set_option maxRecDepth 100000
set_option maxHeartbeats 8000000

/-! What _law_told answers (printed by gen.py). -/
namespace DL
open PySem PySem.Spec PyProof.Rows L2

theorem told0_ok {va vb d : D} (h : F_is_riffle [va] = .ok d) : F__law_told [.int 0, va, vb] = .ok (.tuple [.str "value", d]) := by
  simp [F__law_told, callS_eq, g__law_told, tryS, h]
theorem told0_NotOrder {va vb : D} (h : F_is_riffle [va] = .er "NotOrder" [("label", .str "NotOrder")]) : F__law_told [.int 0, va, vb] = .ok (.tuple [.str "order", .int 0]) := by
  simp [F__law_told, callS_eq, g__law_told, tryS, h]
  rfl
theorem told0_OutOfRange {va vb x_value : D} (h : F_is_riffle [va] = .er "OutOfRange" [("value", x_value), ("label", .str "OutOfRange")]) : F__law_told [.int 0, va, vb] = .ok (.tuple [.str "range", x_value]) := by
  simp [F__law_told, callS_eq, g__law_told, tryS, h]
  rfl
theorem told1_ok {va vb d : D} (h : F_riffles_needed [va] = .ok d) : F__law_told [.int 1, va, vb] = .ok (.tuple [.str "value", d]) := by
  simp [F__law_told, callS_eq, g__law_told, tryS, h]
theorem told1_NotOrder {va vb : D} (h : F_riffles_needed [va] = .er "NotOrder" [("label", .str "NotOrder")]) : F__law_told [.int 1, va, vb] = .ok (.tuple [.str "order", .int 0]) := by
  simp [F__law_told, callS_eq, g__law_told, tryS, h]
  rfl
theorem told1_OutOfRange {va vb x_value : D} (h : F_riffles_needed [va] = .er "OutOfRange" [("value", x_value), ("label", .str "OutOfRange")]) : F__law_told [.int 1, va, vb] = .ok (.tuple [.str "range", x_value]) := by
  simp [F__law_told, callS_eq, g__law_told, tryS, h]
  rfl
theorem told2_ok {va vb d : D} (h : F_nth_riffle [va, vb] = .ok d) : F__law_told [.int 2, va, vb] = .ok (.tuple [.str "value", d]) := by
  simp [F__law_told, callS_eq, g__law_told, tryS, h]
theorem told2_NotOrder {va vb : D} (h : F_nth_riffle [va, vb] = .er "NotOrder" [("label", .str "NotOrder")]) : F__law_told [.int 2, va, vb] = .ok (.tuple [.str "order", .int 0]) := by
  simp [F__law_told, callS_eq, g__law_told, tryS, h]
  rfl
theorem told2_OutOfRange {va vb x_value : D} (h : F_nth_riffle [va, vb] = .er "OutOfRange" [("value", x_value), ("label", .str "OutOfRange")]) : F__law_told [.int 2, va, vb] = .ok (.tuple [.str "range", x_value]) := by
  simp [F__law_told, callS_eq, g__law_told, tryS, h]
  rfl
theorem told3_ok {va vb d : D} (h : F_is_gilbreath [va] = .ok d) : F__law_told [.int 3, va, vb] = .ok (.tuple [.str "value", d]) := by
  simp [F__law_told, callS_eq, g__law_told, tryS, h]
theorem told3_NotOrder {va vb : D} (h : F_is_gilbreath [va] = .er "NotOrder" [("label", .str "NotOrder")]) : F__law_told [.int 3, va, vb] = .ok (.tuple [.str "order", .int 0]) := by
  simp [F__law_told, callS_eq, g__law_told, tryS, h]
  rfl
theorem told3_OutOfRange {va vb x_value : D} (h : F_is_gilbreath [va] = .er "OutOfRange" [("value", x_value), ("label", .str "OutOfRange")]) : F__law_told [.int 3, va, vb] = .ok (.tuple [.str "range", x_value]) := by
  simp [F__law_told, callS_eq, g__law_told, tryS, h]
  rfl
theorem told4_ok {va vb d : D} (h : F_nth_gilbreath [va, vb] = .ok d) : F__law_told [.int 4, va, vb] = .ok (.tuple [.str "value", d]) := by
  simp [F__law_told, callS_eq, g__law_told, tryS, h]
theorem told4_NotOrder {va vb : D} (h : F_nth_gilbreath [va, vb] = .er "NotOrder" [("label", .str "NotOrder")]) : F__law_told [.int 4, va, vb] = .ok (.tuple [.str "order", .int 0]) := by
  simp [F__law_told, callS_eq, g__law_told, tryS, h]
  rfl
theorem told4_OutOfRange {va vb x_value : D} (h : F_nth_gilbreath [va, vb] = .er "OutOfRange" [("value", x_value), ("label", .str "OutOfRange")]) : F__law_told [.int 4, va, vb] = .ok (.tuple [.str "range", x_value]) := by
  simp [F__law_told, callS_eq, g__law_told, tryS, h]
  rfl
theorem told5_ok {va vb d : D} (h : F_rank_gilbreath [va] = .ok d) : F__law_told [.int 5, va, vb] = .ok (.tuple [.str "value", d]) := by
  simp [F__law_told, callS_eq, g__law_told, tryS, h]
theorem told5_NotOrder {va vb : D} (h : F_rank_gilbreath [va] = .er "NotOrder" [("label", .str "NotOrder")]) : F__law_told [.int 5, va, vb] = .ok (.tuple [.str "order", .int 0]) := by
  simp [F__law_told, callS_eq, g__law_told, tryS, h]
  rfl
theorem told5_OutOfRange {va vb x_value : D} (h : F_rank_gilbreath [va] = .er "OutOfRange" [("value", x_value), ("label", .str "OutOfRange")]) : F__law_told [.int 5, va, vb] = .ok (.tuple [.str "range", x_value]) := by
  simp [F__law_told, callS_eq, g__law_told, tryS, h]
  rfl
theorem told6_ok {va vb d : D} (h : F_gilbreath_cut [va] = .ok d) : F__law_told [.int 6, va, vb] = .ok (.tuple [.str "value", d]) := by
  simp [F__law_told, callS_eq, g__law_told, tryS, h]
theorem told6_NotOrder {va vb : D} (h : F_gilbreath_cut [va] = .er "NotOrder" [("label", .str "NotOrder")]) : F__law_told [.int 6, va, vb] = .ok (.tuple [.str "order", .int 0]) := by
  simp [F__law_told, callS_eq, g__law_told, tryS, h]
  rfl
theorem told6_OutOfRange {va vb x_value : D} (h : F_gilbreath_cut [va] = .er "OutOfRange" [("value", x_value), ("label", .str "OutOfRange")]) : F__law_told [.int 6, va, vb] = .ok (.tuple [.str "range", x_value]) := by
  simp [F__law_told, callS_eq, g__law_told, tryS, h]
  rfl
theorem told7_ok {va vb d : D} (h : F_count_riffles [va] = .ok d) : F__law_told [.int 7, va, vb] = .ok (.tuple [.str "value", d]) := by
  simp [F__law_told, callS_eq, g__law_told, tryS, h]
theorem told7_NotOrder {va vb : D} (h : F_count_riffles [va] = .er "NotOrder" [("label", .str "NotOrder")]) : F__law_told [.int 7, va, vb] = .ok (.tuple [.str "order", .int 0]) := by
  simp [F__law_told, callS_eq, g__law_told, tryS, h]
  rfl
theorem told7_OutOfRange {va vb x_value : D} (h : F_count_riffles [va] = .er "OutOfRange" [("value", x_value), ("label", .str "OutOfRange")]) : F__law_told [.int 7, va, vb] = .ok (.tuple [.str "range", x_value]) := by
  simp [F__law_told, callS_eq, g__law_told, tryS, h]
  rfl
theorem told8_ok {va vb d : D} (h : F_count_gilbreath [va] = .ok d) : F__law_told [.int 8, va, vb] = .ok (.tuple [.str "value", d]) := by
  simp [F__law_told, callS_eq, g__law_told, tryS, h]
theorem told8_NotOrder {va vb : D} (h : F_count_gilbreath [va] = .er "NotOrder" [("label", .str "NotOrder")]) : F__law_told [.int 8, va, vb] = .ok (.tuple [.str "order", .int 0]) := by
  simp [F__law_told, callS_eq, g__law_told, tryS, h]
  rfl
theorem told8_OutOfRange {va vb x_value : D} (h : F_count_gilbreath [va] = .er "OutOfRange" [("value", x_value), ("label", .str "OutOfRange")]) : F__law_told [.int 8, va, vb] = .ok (.tuple [.str "range", x_value]) := by
  simp [F__law_told, callS_eq, g__law_told, tryS, h]
  rfl
end DL
set_option Elab.async false
set_option linter.all false
set_option maxRecDepth 100000
set_option maxHeartbeats 1000000
/-! Plain: how many choices (as in k16); orders laid into one another. -/
namespace DL
open PySem PySem.Spec PyProof.Rows L2
local macro_rules | `(tactic| trivial) => `(tactic| first | omega | (simp; done))

def ch : Nat → Nat → Nat
  | _, 0 => 1
  | 0, _ + 1 => 0
  | n + 1, k + 1 => ch n k + ch n (k + 1)
theorem ch_0 (n : Nat) : ch n 0 = 1 := by cases n <;> rfl
theorem ch_big : ∀ n k, n < k → ch n k = 0
  | 0, k + 1, _ => rfl
  | n + 1, k + 1, h => by
    show ch n k + ch n (k + 1) = 0
    rw [ch_big n k (by omega), ch_big n (k + 1) (by omega)]
theorem ch_fct : ∀ n k, k ≤ n → ch n k * (fct k * fct (n - k)) = fct n
  | n, 0, _ => by rw [ch_0]; simp [fct]
  | n + 1, k + 1, h => by
    have e1 : fct (k + 1) = (k + 1) * fct k := rfl
    have e2 : fct (n + 1) = (n + 1) * fct n := rfl
    have i1 := ch_fct n k (by omega)
    show (ch n k + ch n (k + 1)) * _ = _
    rw [show n + 1 - (k + 1) = n - k by omega, Nat.add_mul]
    by_cases hk : k = n
    · subst hk
      rw [ch_big k (k + 1) (by omega), Nat.zero_mul, Nat.add_zero, e1, Nat.mul_assoc (k + 1), Nat.mul_left_comm]
      exact congrArg ((k + 1) * ·) i1
    · have i2 := ch_fct n (k + 1) (by omega)
      have e3 : fct (n - k) = (n - k) * fct (n - (k + 1)) := by
        rw [show n - k = n - (k + 1) + 1 by omega]
        rfl
      have p1 : ch n k * (fct (k + 1) * fct (n - k)) = (k + 1) * fct n := by
        rw [e1, ← i1, Nat.mul_assoc (k + 1), Nat.mul_left_comm]
      have p2 : ch n (k + 1) * (fct (k + 1) * fct (n - k)) = (n - k) * fct n := by
        rw [e3, ← i2, Nat.mul_left_comm (fct (k + 1)), Nat.mul_left_comm]
      rw [p1, p2, ← Nat.add_mul, e2]
      congr 1
      omega
theorem ch_sym {n k : Nat} (h : k ≤ n) : ch n (n - k) = ch n k := by
  have h1 := ch_fct n k h
  have h2 := ch_fct n (n - k) (by omega)
  rw [show n - (n - k) = k by omega, Nat.mul_comm (fct (n - k))] at h2
  exact Nat.eq_of_mul_eq_mul_right (Nat.mul_pos (fct_pos _) (fct_pos _)) (h2.trans h1.symm)
theorem ch_step {n j : Nat} (h : j < n) : ch n j * (n - j) / (j + 1) = ch n (j + 1) := by
  have h1 := ch_fct n j (by omega)
  have h2 := ch_fct n (j + 1) (by omega)
  have e1 : fct (j + 1) = (j + 1) * fct j := rfl
  have e3 : fct (n - j) = (n - j) * fct (n - (j + 1)) := by
    rw [show n - j = n - (j + 1) + 1 by omega]
    rfl
  have : ch n (j + 1) * (j + 1) = ch n j * (n - j) := by
    refine Nat.eq_of_mul_eq_mul_right (Nat.mul_pos (fct_pos j) (fct_pos (n - (j + 1)))) ?_
    rw [e1] at h2
    rw [e3] at h1
    have a1 : ch n (j + 1) * (j + 1) * (fct j * fct (n - (j + 1))) = fct n := by
      rw [← h2]
      simp only [Nat.mul_assoc]
    have a2 : ch n j * (n - j) * (fct j * fct (n - (j + 1))) = fct n := by
      rw [← h1, Nat.mul_assoc, Nat.mul_left_comm (fct j)]
    rw [a1, a2]
  rw [← this]
  exact Nat.mul_div_cancel _ (by omega)
def PCo (n k : Nat) (m : D) (i : Nat) (γ : Env) : Prop := ∃ x, γ = [some (.int n), some (.int k), some (.int (ch n i : Nat)), x]
theorem com_E (n k : Nat) (hn : n ≤ 1000000) (hk : k ≤ n) : F_combinations [.int n, .int k] = .ok (.int (ch n k : Nat)) := by
  have h0 : ¬ (n : Int) < k := by omega
  have h00 : ¬ (k : Int) < 0 := by omega
  have hmin : minD [.int (k : Int), .int ((n : Int) - k)] = some (.int (min k (n - k) : Nat)) := by
    rw [minD_2]
    congr 2
    split <;> omega
  simp (disch := trivial) [F_combinations, callS_eq, g_combinations, h0, h00]
  simp only [minD_2] at hmin
  have r1 := rg1_E (min k (n - k) : Nat) (by omega)
  rw [Int.toNat_natCast] at r1
  have hmin' : (if (n : Int) - k < k then (n : Int) - k else k) = (min k (n - k) : Nat) := by
    split <;> omega
  rw [hmin', r1]
  simp
  generalize hf : forS _ _ _ _ = o
  obtain ⟨γ', rfl, x, rfl⟩ := for_R hf (PCo n k .none) ⟨none, by rw [ch_0]; rfl⟩ (by
    rintro i hi γ ⟨x, rfl⟩
    refine ⟨_, rfl, ?_⟩
    have hi2 : i < n := by omega
    have m1 := mulD_int (i := (ch n i : Nat)) (j := (n : Int) - i) (.inr (by omega))
    have e : ((ch n i : Nat) : Int) * ((n : Int) - i) = ((ch n i * (n - i) : Nat) : Int) := by
      push_cast
      rw [show ((n - i : Nat) : Int) = (n : Int) - i by omega]
    have fd := fdivW_int (i := ((ch n i : Nat) : Int) * ((n : Int) - i)) (j := (i : Int) + 1) (by omega) (by omega)
    rw [e, show (i : Int) + 1 = ((i + 1 : Nat) : Int) by omega, ← Int.natCast_ediv, ch_step hi2, ← e, show ((i + 1 : Nat) : Int) = (i : Int) + 1 by omega] at fd
    have hnew : PCo n k .none (i + 1) [some (.int n), some (.int k), some (.int (ch n (i + 1) : Nat)), some (.int i)] := ⟨_, rfl⟩
    generalize ch n (i + 1) = c2 at *
    generalize ch n i = c1 at *
    simp [m1, fd]
    exact hnew)
  have e : ch n (min k (n - k)) = ch n k := by
    by_cases h : k ≤ n - k
    · rw [Nat.min_eq_left h]
    · rw [Nat.min_eq_right (by omega), ch_sym hk]
  rw [e]
  simp
/-! sums of choices -/
def sch (N : Nat) : Nat → Nat
  | 0 => 0
  | k + 1 => sch N k + ch N k
theorem sch_pas (N : Nat) : ∀ k, sch (N + 1) (k + 1) = sch N (k + 1) + sch N k
  | 0 => by show 0 + ch (N + 1) 0 = (0 + ch N 0) + 0; rw [ch_0, ch_0]
  | k + 1 => by
    show sch (N + 1) (k + 1) + ch (N + 1) (k + 1) = (sch N (k + 1) + ch N (k + 1)) + (sch N k + ch N k)
    rw [sch_pas N k]
    show _ + (ch N k + ch N (k + 1)) = _
    omega
theorem sch_all : ∀ N, sch N (N + 1) = 2 ^ N
  | 0 => rfl
  | N + 1 => by
    rw [sch_pas]
    show (sch N (N + 1) + ch N (N + 1)) + sch N (N + 1) = _
    rw [ch_big N (N + 1) (by omega), sch_all N, Nat.pow_succ]
    omega
/-! laid into one another -/
def mrg : List Nat → List Nat → Nat → List Nat
  | [], ls, _ => ls
  | u :: us, [], _ => u :: us
  | u :: us, l :: ls, n => if n < ch (us.length + (ls.length + 1)) (ls.length + 1) then u :: mrg us (l :: ls) n else l :: mrg (u :: us) ls (n - ch (us.length + (ls.length + 1)) (ls.length + 1))
termination_by us ls => us.length + ls.length
theorem mrg_nil (ls : List Nat) (n : Nat) : mrg [] ls n = ls := by unfold mrg; rfl
theorem mrg_nil2 (us : List Nat) (n : Nat) : mrg us [] n = us := by cases us <;> unfold mrg <;> rfl
theorem mrg_cons (u : Nat) (us : List Nat) (l : Nat) (ls : List Nat) (n : Nat) : mrg (u :: us) (l :: ls) n = if n < ch (us.length + (ls.length + 1)) (ls.length + 1) then u :: mrg us (l :: ls) n else l :: mrg (u :: us) ls (n - ch (us.length + (ls.length + 1)) (ls.length + 1)) := by
  rw [mrg]
theorem mrg_perm : ∀ (k : Nat) (us ls : List Nat) (n : Nat), us.length + ls.length = k → (mrg us ls n).Perm (us ++ ls) := by
  intro k
  induction k with
  | zero =>
    intro us ls n h
    have h1 : us = [] := List.length_eq_zero_iff.mp (by omega)
    subst h1
    rw [mrg_nil]
    exact .refl _
  | succ k ih =>
    intro us ls n h
    cases us with
    | nil => rw [mrg_nil]; exact .refl _
    | cons u us =>
      cases ls with
      | nil => rw [mrg_nil2, List.append_nil]
      | cons l ls =>
        rw [mrg_cons]
        simp only [List.length_cons] at h
        split
        · exact (ih us (l :: ls) n (by simp only [List.length_cons]; omega)).cons u
        · exact ((ih (u :: us) ls _ (by simp only [List.length_cons]; omega)).cons l).trans List.perm_middle.symm
def PMg (U W : D) (us ls : List Nat) (n : Nat) (k : Nat) (γ : Env) : Prop := ∃ (acc : List Nat) (one other n' : Nat) (x : Option D), γ = [some (L us), some (L ls), some (.int n'), some (L acc), some (.int one), some (.int other), x] ∧ one ≤ us.length ∧ other ≤ ls.length ∧ one + other = k ∧
  acc ++ mrg (us.drop one) (ls.drop other) n' = mrg us ls n ∧ acc.length = one + other
theorem drop_getN (ls : List Nat) (i : Nat) (h : i < ls.length) : ls.drop i = ls.getD i 0 :: ls.drop (i + 1) := by
  rw [List.drop_eq_getElem_cons h]; simp [List.getD_eq_getElem?_getD, h]
theorem merged_E (us ls : List Nat) (n : Nat) (hl : us.length + ls.length ≤ 1000) : F_merged_at [L us, L ls, .int n] = .ok (L (mrg us ls n)) := by
  have l1 : lenD [L us] = some (.int us.length) := lenD_L _
  have l2 : lenD [L ls] = some (.int ls.length) := lenD_L _
  simp [F_merged_at, callS_eq, g_merged_at]
  generalize hf : whileS _ _ _ _ = o
  have := while_turns hf (PMg .none .none us ls n) (fun o => ∃ (acc : List Nat) (one other n' : Nat) (x : Option D), o = .nx [some (L us), some (L ls), some (.int n'), some (L acc), some (.int one), some (.int other), x] ∧ one ≤ us.length ∧ other ≤ ls.length ∧ acc ++ (us.drop one ++ ls.drop other) = mrg us ls n ∧ acc.length = one + other) (us.length + ls.length) (by omega) ⟨[], 0, 0, n, none, rfl, by omega, by omega, rfl, by simp, rfl⟩ (fun k γ h => by obtain ⟨_, one, other, _, _, _, h1, h2, h3, _⟩ := h; omega) (by
    rintro k γ ⟨acc, one, other, n', x, rfl, h1, h2, h3, h4, h5⟩
    by_cases c1 : one < us.length
    · by_cases c2 : other < ls.length
      · left
        have hc := com_E (us.length - one - 1 + (ls.length - other)) (ls.length - other) (by omega) (by omega)
        rw [show ((us.length - one - 1 + (ls.length - other) : Nat) : Int) = (us.length : Int) - one - 1 + ls.length - other by omega, show ((ls.length - other : Nat) : Int) = (ls.length : Int) - other by omega] at hc
        have i1 : ixD (L us) (.int (one : Int)) = some (.int (us.getD one 0 : Nat)) := by
          rw [ixD_L us one (by omega)]; unfold gt; rw [if_neg (by omega), Int.toNat_natCast]; rfl
        have i2 : ixD (L ls) (.int (other : Int)) = some (.int (ls.getD other 0 : Nat)) := by
          rw [ixD_L ls other (by omega)]; unfold gt; rw [if_neg (by omega), Int.toNat_natCast]; rfl
        rw [drop_getN us one c1, drop_getN ls other c2, mrg_cons, List.length_drop, List.length_drop, show us.length - (one + 1) + (ls.length - (other + 1) + 1) = us.length - one - 1 + (ls.length - other) by omega, show ls.length - (other + 1) + 1 = ls.length - other by omega] at h4
        have hlim : acc.length < 1000000 := by omega
        have c1' : (one : Int) < us.length := by omega
        have c2' : (other : Int) < ls.length := by omega
        have dl := drop_getN ls other c2
        have du := drop_getN us one c1
        generalize ch (us.length - one - 1 + (ls.length - other)) (ls.length - other) = c at *
        have al : (acc ++ [us.getD one 0]).length = one + 1 + other := by simp; omega
        have al2 : (acc ++ [ls.getD other 0]).length = one + (other + 1) := by simp; omega
        generalize us.getD one 0 = u at *
        generalize ls.getD other 0 = l at *
        by_cases hn : n' < c
        · rw [if_pos hn, ← dl] at h4
          have hn' : (n' : Int) < c := by omega
          simp [l1, l2, c1', c2', hc, hn', i1, hlim]
          refine ⟨acc ++ [u], one + 1, other, n', some (.int c), by simp, by omega, by omega, by omega, ?_, al⟩
          rw [← h4]; simp
        · rw [if_neg hn, ← du] at h4
          have hn' : ¬ (n' : Int) < c := by omega
          have hs : (n' : Int) - c = ((n' - c : Nat) : Int) := by omega
          simp [l1, l2, c1', c2', hc, hn', i2, hlim, hs]
          refine ⟨acc ++ [l], one, other + 1, n' - c, some (.int c), by simp, by omega, by omega, by omega, ?_, al2⟩
          rw [← h4]; simp
      · right
        have c1' : (one : Int) < us.length := by omega
        have c2' : ¬ (other : Int) < ls.length := by omega
        refine ⟨by simp [l1, l2, c1', c2'], acc, one, other, n', x, rfl, h1, h2, ?_, h5⟩
        rw [← h4, List.drop_eq_nil_of_le (by omega : ls.length ≤ other), mrg_nil2, List.append_nil]
    · right
      have c1' : ¬ (one : Int) < us.length := by omega
      refine ⟨by simp [l1, l2, c1'], acc, one, other, n', x, rfl, h1, h2, ?_, h5⟩
      rw [← h4, List.drop_eq_nil_of_le (by omega : us.length ≤ one), mrg_nil, List.nil_append])
  obtain ⟨acc, one, other, n', x, rfl, h1, h2, h3, h4⟩ := this
  have k1 : cutD (Ls us) (some (one : Int)) none = Ls (us.drop one) := by rw [cutD_fromE us one (by omega), Int.toNat_natCast]
  have k2 : cutD (Ls ls) (some (other : Int)) none = Ls (ls.drop other) := by rw [cutD_fromE ls other (by omega), Int.toNat_natCast]
  have a1 := addD_L acc (us.drop one) (by rw [List.length_drop]; omega)
  have a2 := addD_L (acc ++ us.drop one) (ls.drop other) (by rw [List.length_append, List.length_drop, List.length_drop]; omega)
  rw [List.append_assoc, h3] at a2
  simp [k1, k2, a1, a2]
end DL
set_option Elab.async false
set_option linter.all false
set_option maxRecDepth 100000
set_option maxHeartbeats 1000000
/-! Plain: spread orders and their numbers. -/
namespace DL
open PySem PySem.Spec PyProof.Rows L2
local macro_rules | `(tactic| trivial) => `(tactic| first | omega | (simp; done))

def sprd : Nat → Nat → List Nat → Bool
  | _, _, [] => true
  | low, high, c :: r => if c + 1 = low then sprd c high r else if c = high + 1 then sprd low c r else false
theorem sprd_cons (low high c : Nat) (r : List Nat) : sprd low high (c :: r) = if c + 1 = low then sprd c high r else if c = high + 1 then sprd low c r else false := rfl
def PSp (o : List Nat) (x : Nat) (r : List Nat) (i : Nat) (γ : Env) : Prop := ∃ (low high : Nat) (y : Option D), γ = [some (L o), y, some (.int low), some (.int high)] ∧ sprd low high (r.drop i) = sprd x x r
theorem spread_E (x : Nat) (r : List Nat) (hl : r.length ≤ 1000) : F_is_spread [L (x :: r)] = .ok (.bool (sprd x x r)) := by
  have l1 : lenD [L (x :: r)] = some (.int ((r.length : Int) + 1)) := by rw [lenD_L]; simp
  have i0 : ixD (L (x :: r)) (.int 0) = some (.int (x : Int)) := by rw [ixD_L _ 0 (by simp; omega)]; rfl
  have ct : cutD (Ls (x :: r)) (some 1) none = Ls r := by rw [cutD_fromE _ 1 (by omega)]; rfl
  have lp : (0 : Int) < (r.length : Int) + 1 := by omega
  have ca : cutAD (some 1) none (L (x :: r)) = some (L r) := by rw [cutAD_L, ct]; rfl
  generalize hoo : L (x :: r) = oo at *
  simp [F_is_spread, callS_eq, g_is_spread, l1, i0, lp, ca]
  generalize hf : forS _ _ _ _ = o
  have : (∃ γ, o = .nx γ ∧ sprd x x r = true) ∨ (o = .rt (.bool false) ∧ sprd x x r = false) := for_ET hf (fun i γ => ∃ (low high : Nat) (y : Option D), γ = [some oo, y, some (.int low), some (.int high)] ∧ sprd low high (r.drop i) = sprd x x r) (fun o => (∃ γ, o = .nx γ ∧ sprd x x r = true) ∨ (o = .rt (.bool false) ∧ sprd x x r = false)) ⟨x, x, none, rfl, rfl⟩ (by
    rintro i hi γ ⟨low, high, y, rfl, hs⟩
    refine ⟨_, rfl, ?_⟩
    have hd : r.drop i = r[i] :: r.drop (i + 1) := List.drop_eq_getElem_cons hi
    rw [hd] at hs
    generalize r[i] = c at *
    rw [sprd_cons] at hs
    by_cases h1 : c + 1 = low
    · rw [if_pos h1] at hs
      have h1' : (c : Int) = (low : Int) - 1 := by omega
      simp [h1']
      rw [← h1']
      exact ⟨c, high, by simp, hs⟩
    · rw [if_neg h1] at hs
      have h1' : ¬ (c : Int) = (low : Int) - 1 := by omega
      by_cases h2 : c = high + 1
      · rw [if_pos h2] at hs
        have h2' : (c : Int) = (high : Int) + 1 := by omega
        have h3 : ¬ (high : Int) + 1 = (low : Int) - 1 := by omega
        simp [h2', h3]
        rw [← h2']
        exact ⟨low, c, by simp, hs⟩
      · rw [if_neg h2] at hs
        have h2' : ¬ (c : Int) = (high : Int) + 1 := by omega
        simp [h1', h2']
        exact hs.symm) (by
    rintro γ ⟨low, high, y, rfl, hs⟩
    rw [List.drop_length] at hs
    exact .inl ⟨_, rfl, hs.symm⟩)
  rcases this with ⟨γ, rfl, h⟩ | ⟨rfl, h⟩
  · rw [h]; simp
  · rw [h]; simp
/-! the number of a spread order -/
def cLo (f : Nat) (l : List Nat) : Nat := l.countP fun c => decide (c < f)
def cHi (f : Nat) (l : List Nat) : Nat := l.countP fun c => !decide (c < f)
theorem cLo_cons (f c : Nat) (r : List Nat) : cLo f (c :: r) = cLo f r + if c < f then 1 else 0 := by unfold cLo; rw [List.countP_cons]; simp
theorem cHi_cons (f c : Nat) (r : List Nat) : cHi f (c :: r) = cHi f r + if c < f then 0 else 1 := by
  unfold cHi; rw [List.countP_cons]
  by_cases h : c < f <;> simp [h]
theorem cLH (f : Nat) : ∀ l : List Nat, cLo f l + cHi f l = l.length
  | [] => rfl
  | c :: r => by
    have := cLH f r
    rw [cLo_cons, cHi_cons, List.length_cons]
    split <;> omega
def rkG (f : Nat) : List Nat → Nat
  | [] => 0
  | c :: r => if c < f then rkG f r else (if 0 < cLo f (c :: r) then ch (cLo f (c :: r) - 1 + cHi f (c :: r)) (cHi f (c :: r)) else 0) + rkG f r
theorem rkG_cons (f c : Nat) (r : List Nat) : rkG f (c :: r) = if c < f then rkG f r else (if 0 < cLo f (c :: r) then ch (cLo f (c :: r) - 1 + cHi f (c :: r)) (cHi f (c :: r)) else 0) + rkG f r := rfl
theorem sum_sch (N : Nat) : ∀ f, ((List.range f).map fun k => ((ch N k : Nat) : Int)).sum = (sch N f : Nat)
  | 0 => rfl
  | f + 1 => by
    rw [List.range_succ, List.map_append, List.sum_append, sum_sch N f]
    show _ + (((ch N f : Nat) : Int) + 0) = ((sch N f + ch N f : Nat) : Int)
    omega
theorem rank_E (f : Nat) (r : List Nat) {n : Nat} (h : IsP (f :: r) n) (hn : n ≤ 1000) (h1 : cLo f r = f) (h2 : cHi f r + f + 1 = n) : F_rank_gilbreath [L (f :: r)] = .ok (if sprd f f r = true then .int (sch (n - 1) f + rkG f r : Nat) else .none) := by
  have hlen := h.len
  rw [List.length_cons] at hlen
  have ck := chk_E h (by omega)
  have sp := spread_E f r (by omega)
  have l1 : lenD [L (f :: r)] = some (.int (n : Int)) := by rw [lenD_L, h.len]
  have i0 : ixD (L (f :: r)) (.int 0) = some (.int (f : Int)) := by rw [ixD_L _ 0 (by simp; omega)]; rfl
  have ca : cutAD (some 1) none (L (f :: r)) = some (L r) := by rw [cutAD_L, cutD_fromE _ 1 (by omega)]; rfl
  have rg := rg1_E (f : Int) (by omega)
  rw [Int.toNat_natCast] at rg
  generalize hoo : L (f :: r) = oo at *
  cases hs : sprd f f r with
  | false =>
    rw [hs] at sp
    simp [F_rank_gilbreath, callS_eq, g_rank_gilbreath, ck, sp]
  | true =>
    rw [hs] at sp
    have hn0 : ¬ n = 0 := by omega
    simp [F_rank_gilbreath, callS_eq, g_rank_gilbreath, ck, sp, l1, hn0, i0, rg]
    rw [compE (fun k : Nat => ((ch (n - 1) k : Nat) : Int)) (by simp; omega) (fun k hk => by
      have hk := List.mem_range.mp hk
      have hc := com_E (n - 1) k (by omega) (by omega)
      rw [show ((n - 1 : Nat) : Int) = (n : Int) - 1 by omega] at hc
      simp [l1, hc])]
    simp [sum_sch, l1, i0, ca]
    generalize hf : forS _ _ _ _ = o
    have := for_ET hf (fun i γ => ∃ (low high rk : Nat) (y z : Option D), γ = [some oo, some (.int rk), y, some (.int low), some (.int high), z] ∧ low = cLo f (r.drop i) ∧ high = cHi f (r.drop i) ∧ rk + rkG f (r.drop i) = sch (n - 1) f + rkG f r)
      (fun o => ∃ γ, o = .nx γ ∧ γ[1]? = some (some (.int (sch (n - 1) f + rkG f r : Nat)))) ⟨f, cHi f r, sch (n - 1) f, none, none, by
        have : (n : Int) - 1 - f = (cHi f r : Nat) := by omega
        rw [this], h1.symm, rfl, rfl⟩ (by
      rintro i hi γ ⟨low, high, rk, y, z, rfl, h3, h4, h5⟩
      refine ⟨_, rfl, ?_⟩
      have hd : r.drop i = r[i] :: r.drop (i + 1) := List.drop_eq_getElem_cons hi
      rw [hd] at h3 h4 h5
      rw [rkG_cons, ← h3, ← h4] at h5
      have hlh : low + high ≤ 1000 := by
        have := cLH f (r[i] :: r.drop (i + 1))
        rw [← h3, ← h4, List.length_cons, List.length_drop] at this
        omega
      rw [cLo_cons] at h3
      rw [cHi_cons] at h4
      generalize r[i] = c at *
      generalize hr' : r.drop (i + 1) = r' at *
      by_cases hc : c < f
      · rw [if_pos hc] at h3 h4 h5
        have hc' : (c : Int) < f := by omega
        have hs1 : (low : Int) - 1 = ((low - 1 : Nat) : Int) := by omega
        simp [i0, hc', hs1]
        exact ⟨low - 1, high, rk, by simp, by omega, by omega, h5⟩
      · rw [if_neg hc] at h3 h4 h5
        have hc' : ¬ (c : Int) < f := by omega
        have hs2 : (high : Int) - 1 = ((high - 1 : Nat) : Int) := by omega
        by_cases hl : 0 < low
        · rw [if_pos hl] at h5
          have hc2 := com_E (low - 1 + high) high (by omega) (by omega)
          rw [show ((low - 1 + high : Nat) : Int) = (low : Int) - 1 + high by omega] at hc2
          generalize ch (low - 1 + high) high = cc at *
          simp [i0, hc', hl, hc2, hs2]
          exact ⟨low, high - 1, rk + cc, by simp, by omega, by omega, by omega⟩
        · rw [if_neg hl] at h5
          simp [i0, hc', hl, hs2]
          exact ⟨low, high - 1, rk, by simp, by omega, by omega, by omega⟩) (by
      rintro γ ⟨low, high, rk, y, z, rfl, h3, h4, h5⟩
      rw [List.drop_length] at h5
      refine ⟨_, rfl, ?_⟩
      rw [← h5]
      rfl)
    obtain ⟨γ, rfl, hg⟩ := this
    have hge : gE γ 1 = .ok (.int (sch (n - 1) f + rkG f r : Nat)) := by unfold gE; rw [hg]
    simp [hge]
/-! laid into one another: spread, and numbered -/
theorem rk_mrg (f : Nat) : ∀ (k : Nat) (us ls : List Nat) (m : Nat), us.length + ls.length = k → (∀ u ∈ us, u < f) → (∀ l ∈ ls, ¬ l < f) → m < ch (us.length + ls.length) ls.length → rkG f (mrg us ls m) = m := by
  have lo0 : ∀ ls : List Nat, (∀ l ∈ ls, ¬ l < f) → rkG f ls = 0 := by
    intro ls
    induction ls with
    | nil => intro _; rfl
    | cons l ls ih =>
      intro h
      have hz : cLo f (l :: ls) = 0 := by
        unfold cLo
        rw [List.countP_eq_zero]
        intro a ha
        simpa using h a ha
      rw [rkG_cons, if_neg (h l List.mem_cons_self), hz, if_neg (by omega), ih fun a ha => h a (List.mem_cons_of_mem _ ha)]
  have up0 : ∀ us : List Nat, (∀ u ∈ us, u < f) → rkG f us = 0 := by
    intro us
    induction us with
    | nil => intro _; rfl
    | cons u us ih =>
      intro h
      rw [rkG_cons, if_pos (h u List.mem_cons_self), ih fun a ha => h a (List.mem_cons_of_mem _ ha)]
  intro k
  induction k with
  | zero =>
    intro us ls m h _ _ hm
    have h1 : us = [] := List.length_eq_zero_iff.mp (by omega)
    have h2 : ls = [] := List.length_eq_zero_iff.mp (by omega)
    subst h1; subst h2
    rw [mrg_nil]
    have hm : m < ch 0 0 := hm
    rw [ch_0] at hm
    show 0 = m
    omega
  | succ k ih =>
    intro us ls m h hu hl hm
    cases us with
    | nil =>
      rw [mrg_nil, lo0 ls hl]
      rw [List.length_nil, Nat.zero_add] at hm
      have : ch ls.length ls.length = 1 := by
        have := ch_fct ls.length ls.length (Nat.le_refl _)
        rw [Nat.sub_self, show fct 0 = 1 from rfl, Nat.mul_one] at this
        have hp := fct_pos ls.length
        exact Nat.eq_of_mul_eq_mul_right hp (by rw [this, Nat.one_mul])
      omega
    | cons u us =>
      cases ls with
      | nil =>
        rw [mrg_nil2, up0 _ hu]
        rw [List.length_nil, ch_0] at hm
        omega
      | cons l ls =>
        simp only [List.length_cons] at h hm
        rw [show us.length + 1 + (ls.length + 1) = (us.length + (ls.length + 1)) + 1 by omega] at hm
        have hm : m < ch (us.length + (ls.length + 1)) ls.length + ch (us.length + (ls.length + 1)) (ls.length + 1) := hm
        rw [mrg_cons]
        split
        · rename_i hlt
          rw [rkG_cons, if_pos (hu u List.mem_cons_self)]
          exact ih us (l :: ls) m (by simp only [List.length_cons]; omega) (fun a ha => hu a (List.mem_cons_of_mem _ ha)) hl (by simpa using hlt)
        · rename_i hlt
          have hp := mrg_perm _ (u :: us) ls (m - ch (us.length + (ls.length + 1)) (ls.length + 1)) rfl
          have c1 : cLo f (l :: mrg (u :: us) ls (m - ch (us.length + (ls.length + 1)) (ls.length + 1))) = us.length + 1 := by
            rw [cLo_cons, if_neg (hl l List.mem_cons_self)]
            unfold cLo
            rw [hp.countP_eq, List.countP_append, List.countP_eq_length.mpr (fun a ha => by simpa using hu a ha), List.countP_eq_zero.mpr (fun a ha => by simpa using hl a (List.mem_cons_of_mem _ ha)), List.length_cons]
          have c2 : cHi f (l :: mrg (u :: us) ls (m - ch (us.length + (ls.length + 1)) (ls.length + 1))) = ls.length + 1 := by
            have := cLH f (l :: mrg (u :: us) ls (m - ch (us.length + (ls.length + 1)) (ls.length + 1)))
            rw [c1, List.length_cons, hp.length_eq, List.length_append, List.length_cons] at this
            omega
          rw [rkG_cons, if_neg (hl l List.mem_cons_self), c1, c2, if_pos (by omega), Nat.add_sub_cancel, ih (u :: us) ls _ (by simp only [List.length_cons]; omega) hu (fun a ha => hl a (List.mem_cons_of_mem _ ha)) (by
            simp only [List.length_cons]
            rw [show us.length + 1 + ls.length = us.length + (ls.length + 1) by omega]
            omega)]
          omega
theorem sp_mrg : ∀ (k low high a m : Nat), low ≤ high → low + a = k → sprd low high (mrg (List.range low).reverse (List.range' (high + 1) a) m) = true := by
  intro k
  induction k with
  | zero =>
    intro low high a m hlh h
    have h1 : low = 0 := by omega
    have h2 : a = 0 := by omega
    subst h1; subst h2
    show sprd 0 high (mrg [] [] m) = true
    rw [mrg_nil]; rfl
  | succ k ih =>
    intro low high a m hlh h
    cases low with
    | zero =>
      show sprd 0 high (mrg [] _ m) = true
      rw [mrg_nil]
      cases a with
      | zero => rfl
      | succ a =>
        rw [List.range'_succ, sprd_cons, if_neg (by omega), if_pos rfl]
        have := ih 0 (high + 1) a m (by omega) (by omega)
        have this : sprd 0 (high + 1) (mrg [] (List.range' (high + 1 + 1) a) m) = true := this
        rw [mrg_nil] at this
        exact this
    | succ low =>
      rw [List.range_succ, List.reverse_append]
      show sprd (low + 1) high (mrg (low :: (List.range low).reverse) _ m) = true
      cases a with
      | zero =>
        show sprd (low + 1) high (mrg (low :: (List.range low).reverse) [] m) = true
        rw [mrg_nil2, sprd_cons, if_pos rfl]
        have := ih low high 0 m (by omega) (by omega)
        have this : sprd low high (mrg (List.range low).reverse [] m) = true := this
        rw [mrg_nil2] at this
        exact this
      | succ a =>
        rw [List.range'_succ, mrg_cons]
        split
        · rw [sprd_cons, if_pos rfl, ← List.range'_succ]
          exact ih low high (a + 1) m (by omega) (by omega)
        · rw [sprd_cons, if_neg (by omega), if_pos rfl]
          have := ih (low + 1) (high + 1) a (m - ch ((List.range low).reverse.length + ((List.range' (high + 1 + 1) a).length + 1)) ((List.range' (high + 1 + 1) a).length + 1)) (by omega) (by omega)
          rw [List.range_succ, List.reverse_append] at this
          exact this
/-! the m-th one -/
theorem rgL2_E (a b : Nat) (ha : a ≤ 1000000) (hb : b ≤ 1000000) : rgL2 (.int (a : Int)) (.int (b : Int)) = some (Ls (List.range' a (b - a))) := by
  show (if _ then _ else _) = _
  rw [if_pos (by unfold LIM; omega), rgD_from]
  rfl
theorem shl_E (n : Nat) (hn : n ≤ 1000) : shlD (.int 1) (.int (n : Int)) = some (.int (2 ^ n : Nat)) := by
  show (if powOk 1 n = true then some (PyData.int (1 * 2 ^ (n : Int).toNat)) else none) = _
  rw [if_pos (show powOk 1 n = true from decide_eq_true (by omega))]
  rw [Int.toNat_natCast, Int.one_mul]
  congr 2
theorem gilb_E (n : Nat) (h : 1 ≤ n ∧ n ≤ 200) : F_gilbreaths_of [.int n] = .ok (.int (2 ^ (n - 1) : Nat)) := by
  have sh := shl_E (n - 1) (by omega)
  rw [show ((n - 1 : Nat) : Int) = (n : Int) - 1 by omega] at sh
  generalize (2 ^ (n - 1) : Nat) = p at *
  have h0 : 0 < n := by omega
  simp [F_gilbreaths_of, callS_eq, g_gilbreaths_of, F_power_of_two, g_power_of_two, h0, sh]
def gil (n f m : Nat) : List Nat := f :: mrg (List.range f).reverse (List.range' (f + 1) (n - 1 - f)) m
theorem gil_P {n f m : Nat} (h : f < n) : IsP (gil n f m) n := ⟨by
  have h1 := (mrg_perm _ (List.range f).reverse (List.range' (f + 1) (n - 1 - f)) m rfl).cons f
  refine h1.trans ?_
  have h2 : (f :: ((List.range f).reverse ++ List.range' (f + 1) (n - 1 - f))).Perm ((List.range f) ++ (f :: List.range' (f + 1) (n - 1 - f))) := by
    refine .trans ?_ List.perm_middle.symm
    exact ((List.reverse_perm _).append_right _).cons f
  refine h2.trans (.of_eq ?_)
  rw [← List.range'_succ, List.range_eq_range', show n - 1 - f + 1 = n - f by omega, List.range_eq_range']
  have := List.range'_append (s := 0) (m := f) (n := n - f) (step := 1)
  simp only [Nat.zero_add, Nat.one_mul] at this
  rw [this, show f + (n - f) = n by omega]⟩
theorem gil_rank {n f m : Nat} (h : f < n) (hn : n ≤ 1000) (hm : m < ch (n - 1) f) : F_rank_gilbreath [L (gil n f m)] = .ok (.int (sch (n - 1) f + m : Nat)) ∧ F_is_gilbreath [L (gil n f m)] = .ok (.bool true) := by
  have hp := gil_P (m := m) h
  have hu : ∀ u ∈ (List.range f).reverse, u < f := fun u hu => by simpa using hu
  have hl : ∀ l ∈ List.range' (f + 1) (n - 1 - f), ¬ l < f := fun l hl => by
    have := (List.mem_range'_1.mp hl).1
    omega
  have pm := mrg_perm _ (List.range f).reverse (List.range' (f + 1) (n - 1 - f)) m rfl
  have c1 : cLo f (mrg (List.range f).reverse (List.range' (f + 1) (n - 1 - f)) m) = f := by
    unfold cLo
    rw [pm.countP_eq, List.countP_append, List.countP_eq_length.mpr (fun a ha => by simpa using hu a ha), List.countP_eq_zero.mpr (fun a ha => by simpa using hl a ha), List.length_reverse, List.length_range, Nat.add_zero]
  have hlen := pm.length_eq
  rw [List.length_append, List.length_reverse, List.length_range, List.length_range'] at hlen
  have c2 : cHi f (mrg (List.range f).reverse (List.range' (f + 1) (n - 1 - f)) m) + f + 1 = n := by
    have := cLH f (mrg (List.range f).reverse (List.range' (f + 1) (n - 1 - f)) m)
    omega
  have sp := sp_mrg _ f f (n - 1 - f) m (Nat.le_refl _) rfl
  have rk := rk_mrg f _ (List.range f).reverse (List.range' (f + 1) (n - 1 - f)) m rfl hu hl (by
    rw [List.length_reverse, List.length_range, List.length_range', show f + (n - 1 - f) = n - 1 by omega, ch_sym (by omega)]
    exact hm)
  constructor
  · have := rank_E f _ hp hn c1 c2
    rw [sp, if_pos rfl, rk] at this
    exact this
  · have se := spread_E f (mrg (List.range f).reverse (List.range' (f + 1) (n - 1 - f)) m) (by omega)
    rw [sp] at se
    have ck := chk_E hp (by omega)
    have se : F_is_spread [L (gil n f m)] = .ok (.bool true) := se
    generalize L (gil n f m) = oo at *
    simp [F_is_gilbreath, callS_eq, g_is_gilbreath, ck, se]
theorem nth_E (n m : Nat) (h : 1 ≤ n ∧ n ≤ 200) (hm : m < 2 ^ (n - 1)) : ∃ f m', f < n ∧ m = sch (n - 1) f + m' ∧ m' < ch (n - 1) f ∧ F_nth_gilbreath [.int n, .int m] = .ok (L (gil n f m')) := by
  have gl := gilb_E n h
  have cb := cb_E n 1 200 (by omega)
  have hsum := sch_all (n - 1)
  rw [← hsum] at hm
  rw [← hsum] at gl
  have hge : ¬ ((sch (n - 1) (n - 1 + 1) : Nat) : Int) ≤ m := by omega
  have hgt : ¬ sch (n - 1) (n - 1 + 1) ≤ m := by omega
  have hm0 : ¬ (m : Int) < 0 := by omega
  generalize sch (n - 1) (n - 1 + 1) = tot at gl hge hgt hsum
  generalize hr : F_nth_gilbreath [.int n, .int m] = r
  simp [F_nth_gilbreath, callS_eq, g_nth_gilbreath, cb, gl, hgt, hm0] at hr
  generalize hf : whileS _ _ _ _ = o at hr
  have := while_turns hf (fun k γ => ∃ m', γ = [some (.int n), some (.int (m' : Nat)), some (.int (k : Nat))] ∧ m = sch (n - 1) k + m' ∧ k ≤ n - 1) (fun o => ∃ f m', f < n ∧ m = sch (n - 1) f + m' ∧ m' < ch (n - 1) f ∧ o = .nx [some (.int n), some (.int (m' : Nat)), some (.int (f : Nat))]) n (by omega) ⟨m, rfl, by show m = 0 + m; omega, by omega⟩ (fun k γ hk => by obtain ⟨_, _, _, hk⟩ := hk; omega) (by
    rintro k γ ⟨m', rfl, h1, h2⟩
    have hc := com_E (n - 1) k (by omega) h2
    rw [show ((n - 1 : Nat) : Int) = (n : Int) - 1 by omega] at hc
    by_cases hlt : m' < ch (n - 1) k
    · right
      refine ⟨?_, k, m', by omega, h1, hlt, rfl⟩
      have hlt' : ¬ ch (n - 1) k ≤ m' := by omega
      generalize ch (n - 1) k = cc at *
      simp [hc, hlt']
    · left
      have hk1 : k + 1 ≤ n - 1 := by
        rcases Nat.lt_or_ge k (n - 1) with z | z
        · omega
        · have e : k = n - 1 := by omega
          subst e
          have hm : m < sch (n - 1) (n - 1) + ch (n - 1) (n - 1) := hm
          omega
      have hs : sch (n - 1) (k + 1) = sch (n - 1) k + ch (n - 1) k := rfl
      have hlt' : ch (n - 1) k ≤ m' := by omega
      have hd : (m' : Int) - (ch (n - 1) k : Nat) = ((m' - ch (n - 1) k : Nat) : Int) := by omega
      have hm2 : m = sch (n - 1) (k + 1) + (m' - ch (n - 1) k) := by omega
      generalize m' - ch (n - 1) k = m2 at *
      generalize ch (n - 1) k = cc at *
      simp [hc, hlt', hd]
      exact ⟨m2, by simp, hm2, hk1⟩)
  obtain ⟨f, m', hf1, hf2, hf3, rfl⟩ := this
  refine ⟨f, m', hf1, hf2, hf3, ?_⟩
  have r1 := rgL1_E (f : Int) (by omega)
  rw [Int.toNat_natCast] at r1
  have r2 : rgL2 (.int ((f : Int) + 1)) (.int (n : Int)) = some (Ls (List.range' (f + 1) (n - 1 - f))) := by
    have := rgL2_E (f + 1) n (by omega) (by omega)
    rw [show n - (f + 1) = n - 1 - f by omega] at this
    exact this
  have mg := merged_E (List.range f).reverse (List.range' (f + 1) (n - 1 - f)) m' (by rw [List.length_reverse, List.length_range, List.length_range']; omega)
  have pm := (mrg_perm _ (List.range f).reverse (List.range' (f + 1) (n - 1 - f)) m' rfl).length_eq
  rw [List.length_append, List.length_reverse, List.length_range, List.length_range'] at pm
  have ad := addD_L [f] (mrg (List.range f).reverse (List.range' (f + 1) (n - 1 - f)) m') (by rw [pm]; simp; omega)
  have ad' : addD (L [(f : Int)]) (L (mrg (List.range f).reverse (List.range' (f + 1) (n - 1 - f)) m')) = some (L (gil n f m')) := ad
  simp [r1, r2, mg, ad'] at hr
  exact hr.symm
end DL
set_option Elab.async false
set_option linter.all false
set_option maxRecDepth 1000000
set_option maxHeartbeats 4000000
/-! Plain: riffles of up to six cards (printed by v11.py). -/
namespace DL
open PySem PySem.Spec PyProof.Rows L2

def okN : List D → Option (List Nat)
  | [] => some []
  | .int (.ofNat i) :: r => (okN r).map fun l => i :: l
  | _ => none
def okNN : List D → Option (List (List Nat))
  | [] => some []
  | .list l :: r => (okN l).bind fun x => (okNN r).map fun xs => x :: xs
  | _ => none
def okL : Rs D → Option (List Nat)
  | .ok (.list l) => okN l
  | _ => none
def okLL : Rs D → Option (List (List Nat))
  | .ok (.list l) => okNN l
  | _ => none
theorem okN_eq : ∀ {l : List D} {x : List Nat}, okN l = some x → l = Ls x
  | [], _, h => by cases h; rfl
  | d :: r, x, h => by
    unfold okN at h
    split at h
    · rename_i h0; cases h0
    · rename_i h0
      cases h0
      cases hr : okN r with
      | none => rw [hr] at h; cases h
      | some l =>
        rw [hr] at h
        cases h
        rw [okN_eq hr]
        rfl
    · cases h
theorem okNN_eq : ∀ {l : List D} {x : List (List Nat)}, okNN l = some x → l = Ls x
  | [], _, h => by cases h; rfl
  | d :: r, x, h => by
    unfold okNN at h
    split at h
    · rename_i h0; cases h0
    · rename_i l' r' h0
      cases h0
      cases hl : okN l' with
      | none => rw [hl] at h; cases h
      | some y =>
        rw [hl] at h
        cases hr : okNN r with
        | none => rw [hr] at h; cases h
        | some ys =>
          rw [hr] at h
          cases h
          rw [okN_eq hl, okNN_eq hr]
          rfl
    · cases h
theorem okL_eq {r : Rs D} {x : List Nat} (h : okL r = some x) : r = .ok (L x) := by
  unfold okL at h
  split at h
  · rw [okN_eq h]; rfl
  · cases h
theorem okLL_eq {r : Rs D} {x : List (List Nat)} (h : okLL r = some x) : r = .ok (L x) := by
  unfold okLL at h
  split at h
  · rw [okNN_eq h]; rfl
  · cases h

def RT : Nat → List (List Nat)
  | 1 => [[0]]
  | 2 => [[0, 1], [1, 0]]
  | 3 => [[0, 1, 2], [0, 2, 1], [1, 0, 2], [1, 2, 0], [2, 0, 1]]
  | 4 => [[0, 1, 2, 3], [0, 1, 3, 2], [0, 2, 1, 3], [0, 2, 3, 1], [0, 3, 1, 2], [1, 0, 2, 3], [1, 2, 0, 3], [1, 2, 3, 0], [2, 0, 1, 3], [2, 0, 3, 1], [2, 3, 0, 1], [3, 0, 1, 2]]
  | 5 => [[0, 1, 2, 3, 4], [0, 1, 2, 4, 3], [0, 1, 3, 2, 4], [0, 1, 3, 4, 2], [0, 1, 4, 2, 3], [0, 2, 1, 3, 4], [0, 2, 3, 1, 4], [0, 2, 3, 4, 1], [0, 3, 1, 2, 4], [0, 3, 1, 4, 2], [0, 3, 4, 1, 2], [0, 4, 1, 2, 3], [1, 0, 2, 3, 4], [1, 2, 0, 3, 4], [1, 2, 3, 0, 4], [1, 2, 3, 4, 0], [2, 0, 1, 3, 4], [2, 0, 3, 1, 4], [2, 0, 3, 4, 1], [2, 3, 0, 1, 4], [2, 3, 0, 4, 1], [2, 3, 4, 0, 1], [3, 0, 1, 2, 4], [3, 0, 1, 4, 2], [3, 0, 4, 1, 2], [3, 4, 0, 1, 2], [4, 0, 1, 2, 3]]
  | 6 => [[0, 1, 2, 3, 4, 5], [0, 1, 2, 3, 5, 4], [0, 1, 2, 4, 3, 5], [0, 1, 2, 4, 5, 3], [0, 1, 2, 5, 3, 4], [0, 1, 3, 2, 4, 5], [0, 1, 3, 4, 2, 5], [0, 1, 3, 4, 5, 2], [0, 1, 4, 2, 3, 5], [0, 1, 4, 2, 5, 3], [0, 1, 4, 5, 2, 3], [0, 1, 5, 2, 3, 4], [0, 2, 1, 3, 4, 5], [0, 2, 3, 1, 4, 5], [0, 2, 3, 4, 1, 5], [0, 2, 3, 4, 5, 1], [0, 3, 1, 2, 4, 5], [0, 3, 1, 4, 2, 5], [0, 3, 1, 4, 5, 2], [0, 3, 4, 1, 2, 5], [0, 3, 4, 1, 5, 2], [0, 3, 4, 5, 1, 2], [0, 4, 1, 2, 3, 5], [0, 4, 1, 2, 5, 3], [0, 4, 1, 5, 2, 3], [0, 4, 5, 1, 2, 3], [0, 5, 1, 2, 3, 4], [1, 0, 2, 3, 4, 5], [1, 2, 0, 3, 4, 5], [1, 2, 3, 0, 4, 5], [1, 2, 3, 4, 0, 5], [1, 2, 3, 4, 5, 0], [2, 0, 1, 3, 4, 5], [2, 0, 3, 1, 4, 5], [2, 0, 3, 4, 1, 5], [2, 0, 3, 4, 5, 1], [2, 3, 0, 1, 4, 5], [2, 3, 0, 4, 1, 5], [2, 3, 0, 4, 5, 1], [2, 3, 4, 0, 1, 5], [2, 3, 4, 0, 5, 1], [2, 3, 4, 5, 0, 1], [3, 0, 1, 2, 4, 5], [3, 0, 1, 4, 2, 5], [3, 0, 1, 4, 5, 2], [3, 0, 4, 1, 2, 5], [3, 0, 4, 1, 5, 2], [3, 0, 4, 5, 1, 2], [3, 4, 0, 1, 2, 5], [3, 4, 0, 1, 5, 2], [3, 4, 0, 5, 1, 2], [3, 4, 5, 0, 1, 2], [4, 0, 1, 2, 3, 5], [4, 0, 1, 2, 5, 3], [4, 0, 1, 5, 2, 3], [4, 0, 5, 1, 2, 3], [4, 5, 0, 1, 2, 3], [5, 0, 1, 2, 3, 4]]
  | _ => []
def DT : Nat → List (List Nat)
  | 1 => [[0]]
  | 2 => [[0, 1], [1, 0]]
  | 3 => [[0, 1, 2], [1, 0, 2], [1, 2, 0], [2, 1, 0]]
  | 4 => [[0, 1, 2, 3], [1, 0, 2, 3], [1, 2, 0, 3], [1, 2, 3, 0], [2, 1, 0, 3], [2, 1, 3, 0], [2, 3, 1, 0], [3, 2, 1, 0]]
  | 5 => [[0, 1, 2, 3, 4], [1, 0, 2, 3, 4], [1, 2, 0, 3, 4], [1, 2, 3, 0, 4], [1, 2, 3, 4, 0], [2, 1, 0, 3, 4], [2, 1, 3, 0, 4], [2, 1, 3, 4, 0], [2, 3, 1, 0, 4], [2, 3, 1, 4, 0], [2, 3, 4, 1, 0], [3, 2, 1, 0, 4], [3, 2, 1, 4, 0], [3, 2, 4, 1, 0], [3, 4, 2, 1, 0], [4, 3, 2, 1, 0]]
  | 6 => [[0, 1, 2, 3, 4, 5], [1, 0, 2, 3, 4, 5], [1, 2, 0, 3, 4, 5], [1, 2, 3, 0, 4, 5], [1, 2, 3, 4, 0, 5], [1, 2, 3, 4, 5, 0], [2, 1, 0, 3, 4, 5], [2, 1, 3, 0, 4, 5], [2, 1, 3, 4, 0, 5], [2, 1, 3, 4, 5, 0], [2, 3, 1, 0, 4, 5], [2, 3, 1, 4, 0, 5], [2, 3, 1, 4, 5, 0], [2, 3, 4, 1, 0, 5], [2, 3, 4, 1, 5, 0], [2, 3, 4, 5, 1, 0], [3, 2, 1, 0, 4, 5], [3, 2, 1, 4, 0, 5], [3, 2, 1, 4, 5, 0], [3, 2, 4, 1, 0, 5], [3, 2, 4, 1, 5, 0], [3, 2, 4, 5, 1, 0], [3, 4, 2, 1, 0, 5], [3, 4, 2, 1, 5, 0], [3, 4, 2, 5, 1, 0], [3, 4, 5, 2, 1, 0], [4, 3, 2, 1, 0, 5], [4, 3, 2, 1, 5, 0], [4, 3, 2, 5, 1, 0], [4, 3, 5, 2, 1, 0], [4, 5, 3, 2, 1, 0], [5, 4, 3, 2, 1, 0]]
  | _ => []
def LT : Nat → Nat → List (List Nat)
  | 1, 0 => [[0]]
  | 1, 1 => [[0]]
  | 2, 0 => [[0, 1]]
  | 2, 1 => [[0, 1], [1, 0]]
  | 2, 2 => [[1, 0]]
  | 3, 0 => [[0, 1, 2]]
  | 3, 1 => [[0, 1, 2], [1, 0, 2], [1, 2, 0]]
  | 3, 2 => [[1, 0, 2], [1, 2, 0], [2, 1, 0]]
  | 3, 3 => [[2, 1, 0]]
  | 4, 0 => [[0, 1, 2, 3]]
  | 4, 1 => [[0, 1, 2, 3], [1, 0, 2, 3], [1, 2, 0, 3], [1, 2, 3, 0]]
  | 4, 2 => [[1, 0, 2, 3], [1, 2, 0, 3], [1, 2, 3, 0], [2, 1, 0, 3], [2, 1, 3, 0], [2, 3, 1, 0]]
  | 4, 3 => [[2, 1, 0, 3], [2, 1, 3, 0], [2, 3, 1, 0], [3, 2, 1, 0]]
  | 4, 4 => [[3, 2, 1, 0]]
  | 5, 0 => [[0, 1, 2, 3, 4]]
  | 5, 1 => [[0, 1, 2, 3, 4], [1, 0, 2, 3, 4], [1, 2, 0, 3, 4], [1, 2, 3, 0, 4], [1, 2, 3, 4, 0]]
  | 5, 2 => [[1, 0, 2, 3, 4], [1, 2, 0, 3, 4], [1, 2, 3, 0, 4], [1, 2, 3, 4, 0], [2, 1, 0, 3, 4], [2, 1, 3, 0, 4], [2, 1, 3, 4, 0], [2, 3, 1, 0, 4], [2, 3, 1, 4, 0], [2, 3, 4, 1, 0]]
  | 5, 3 => [[2, 1, 0, 3, 4], [2, 1, 3, 0, 4], [2, 1, 3, 4, 0], [2, 3, 1, 0, 4], [2, 3, 1, 4, 0], [2, 3, 4, 1, 0], [3, 2, 1, 0, 4], [3, 2, 1, 4, 0], [3, 2, 4, 1, 0], [3, 4, 2, 1, 0]]
  | 5, 4 => [[3, 2, 1, 0, 4], [3, 2, 1, 4, 0], [3, 2, 4, 1, 0], [3, 4, 2, 1, 0], [4, 3, 2, 1, 0]]
  | 5, 5 => [[4, 3, 2, 1, 0]]
  | 6, 0 => [[0, 1, 2, 3, 4, 5]]
  | 6, 1 => [[0, 1, 2, 3, 4, 5], [1, 0, 2, 3, 4, 5], [1, 2, 0, 3, 4, 5], [1, 2, 3, 0, 4, 5], [1, 2, 3, 4, 0, 5], [1, 2, 3, 4, 5, 0]]
  | 6, 2 => [[1, 0, 2, 3, 4, 5], [1, 2, 0, 3, 4, 5], [1, 2, 3, 0, 4, 5], [1, 2, 3, 4, 0, 5], [1, 2, 3, 4, 5, 0], [2, 1, 0, 3, 4, 5], [2, 1, 3, 0, 4, 5], [2, 1, 3, 4, 0, 5], [2, 1, 3, 4, 5, 0], [2, 3, 1, 0, 4, 5], [2, 3, 1, 4, 0, 5], [2, 3, 1, 4, 5, 0], [2, 3, 4, 1, 0, 5], [2, 3, 4, 1, 5, 0], [2, 3, 4, 5, 1, 0]]
  | 6, 3 => [[2, 1, 0, 3, 4, 5], [2, 1, 3, 0, 4, 5], [2, 1, 3, 4, 0, 5], [2, 1, 3, 4, 5, 0], [2, 3, 1, 0, 4, 5], [2, 3, 1, 4, 0, 5], [2, 3, 1, 4, 5, 0], [2, 3, 4, 1, 0, 5], [2, 3, 4, 1, 5, 0], [2, 3, 4, 5, 1, 0], [3, 2, 1, 0, 4, 5], [3, 2, 1, 4, 0, 5], [3, 2, 1, 4, 5, 0], [3, 2, 4, 1, 0, 5], [3, 2, 4, 1, 5, 0], [3, 2, 4, 5, 1, 0], [3, 4, 2, 1, 0, 5], [3, 4, 2, 1, 5, 0], [3, 4, 2, 5, 1, 0], [3, 4, 5, 2, 1, 0]]
  | 6, 4 => [[3, 2, 1, 0, 4, 5], [3, 2, 1, 4, 0, 5], [3, 2, 1, 4, 5, 0], [3, 2, 4, 1, 0, 5], [3, 2, 4, 1, 5, 0], [3, 2, 4, 5, 1, 0], [3, 4, 2, 1, 0, 5], [3, 4, 2, 1, 5, 0], [3, 4, 2, 5, 1, 0], [3, 4, 5, 2, 1, 0], [4, 3, 2, 1, 0, 5], [4, 3, 2, 1, 5, 0], [4, 3, 2, 5, 1, 0], [4, 3, 5, 2, 1, 0], [4, 5, 3, 2, 1, 0]]
  | 6, 5 => [[4, 3, 2, 1, 0, 5], [4, 3, 2, 1, 5, 0], [4, 3, 2, 5, 1, 0], [4, 3, 5, 2, 1, 0], [4, 5, 3, 2, 1, 0], [5, 4, 3, 2, 1, 0]]
  | 6, 6 => [[5, 4, 3, 2, 1, 0]]
  | _, _ => []
theorem all_1 : okLL (F__law_all [.int 1, .bool false]) = some (RT 1) ∧ okLL (F__law_all [.int 1, .bool true]) = some (DT 1) := by decide +kernel
theorem all_2 : okLL (F__law_all [.int 2, .bool false]) = some (RT 2) ∧ okLL (F__law_all [.int 2, .bool true]) = some (DT 2) := by decide +kernel
theorem all_3 : okLL (F__law_all [.int 3, .bool false]) = some (RT 3) ∧ okLL (F__law_all [.int 3, .bool true]) = some (DT 3) := by decide +kernel
theorem all_4 : okLL (F__law_all [.int 4, .bool false]) = some (RT 4) ∧ okLL (F__law_all [.int 4, .bool true]) = some (DT 4) := by decide +kernel
theorem all_5 : okLL (F__law_all [.int 5, .bool false]) = some (RT 5) ∧ okLL (F__law_all [.int 5, .bool true]) = some (DT 5) := by decide +kernel
theorem all_6 : okLL (F__law_all [.int 6, .bool false]) = some (RT 6) ∧ okLL (F__law_all [.int 6, .bool true]) = some (DT 6) := by decide +kernel
theorem all_E {n : Nat} (h : 1 ≤ n ∧ n ≤ 6) : F__law_all [.int n, .bool false] = .ok (L (RT n)) ∧ F__law_all [.int n, .bool true] = .ok (L (DT n)) := by
  have hx : n = 1 ∨ n = 2 ∨ n = 3 ∨ n = 4 ∨ n = 5 ∨ n = 6 := by omega
  rcases hx with rfl | rfl | rfl | rfl | rfl | rfl
  · exact ⟨okLL_eq all_1.1, okLL_eq all_1.2⟩
  · exact ⟨okLL_eq all_2.1, okLL_eq all_2.2⟩
  · exact ⟨okLL_eq all_3.1, okLL_eq all_3.2⟩
  · exact ⟨okLL_eq all_4.1, okLL_eq all_4.2⟩
  · exact ⟨okLL_eq all_5.1, okLL_eq all_5.2⟩
  · exact ⟨okLL_eq all_6.1, okLL_eq all_6.2⟩
def dsc (k : Nat) : List Nat := (List.range k).map fun j => k - 1 - j
def isTt : Rs D → Bool
  | .ok (.bool true) => true
  | _ => false
theorem isTt_eq {r : Rs D} (h : isTt r = true) : r = .ok (.bool true) := by
  unfold isTt at h
  split at h
  · rfl
  · cases h
def nd (r : Nat) : Nat := if r ≤ 1 then 0 else if r ≤ 2 then 1 else if r ≤ 4 then 2 else 3
def risL (n : Nat) (o : List Nat) : Nat := 1 + ((List.range' 1 (n - 1)).filter fun c => decide (o.idxOf c < o.idxOf (c - 1))).length
def cutN (n : Nat) (o : List Nat) : Option Nat := (List.range (n + 1)).find? fun k => decide (o ∈ LT n k)
def okO (n : Nat) (o : List Nat) : Bool :=
  (decide ((ris (invO o) n).length ≤ 2) == decide (o ∈ RT n)) && (sprd (o.getD 0 0) (o.getD 0 0) (o.drop 1) == decide (o ∈ DT n)) &&
  (!decide (o ∈ DT n) || (decide (sch (n - 1) (o.getD 0 0) + rkG (o.getD 0 0) (o.drop 1) = (DT n).idxOf o) && decide (cutN n o = some (o.getD 0 0)))) &&
  decide ((ris (invO o) n).length = risL n o) && decide (cLo (o.getD 0 0) (o.drop 1) = o.getD 0 0) && decide (risL n o ≤ 6)
def tabs (n : Nat) : Bool :=
  ((List.range (n + 1)).all fun k => decide (okLL (F__law_laid [L (dsc k), L (List.range' k (n - k))]) = some (LT n k))) &&
  ((RT n).all fun o => decide (o.Perm (List.range n))) && ((DT n).all fun o => decide (o.Perm (List.range n)))
def nths (n : Nat) : Bool :=
  ((List.range (RT n).length).all fun i => decide (okL (F_nth_riffle [.int n, .int i]) = some ((RT n).getD i []))) &&
  ((List.range (DT n).length).all fun i => decide (okL (F_nth_gilbreath [.int n, .int i]) = some ((DT n).getD i [])))
theorem tabs_1 : tabs 1 = true := by decide +kernel
theorem nths_1 : nths 1 = true := by decide +kernel
theorem ords_1 : ((List.range (fct 1)).all fun k => okO 1 (nthF 1 (List.range 1) k)) = true := by decide +kernel
theorem chk_1 : isTt (F_check_gilbreath [.int 1]) = true := by decide +kernel
theorem tabs_2 : tabs 2 = true := by decide +kernel
theorem nths_2 : nths 2 = true := by decide +kernel
theorem ords_2 : ((List.range (fct 2)).all fun k => okO 2 (nthF 2 (List.range 2) k)) = true := by decide +kernel
theorem chk_2 : isTt (F_check_gilbreath [.int 2]) = true := by decide +kernel
theorem tabs_3 : tabs 3 = true := by decide +kernel
theorem nths_3 : nths 3 = true := by decide +kernel
theorem ords_3 : ((List.range (fct 3)).all fun k => okO 3 (nthF 3 (List.range 3) k)) = true := by decide +kernel
theorem chk_3 : isTt (F_check_gilbreath [.int 3]) = true := by decide +kernel
theorem tabs_4 : tabs 4 = true := by decide +kernel
theorem nths_4 : nths 4 = true := by decide +kernel
theorem ords_4 : ((List.range (fct 4)).all fun k => okO 4 (nthF 4 (List.range 4) k)) = true := by decide +kernel
theorem chk_4 : isTt (F_check_gilbreath [.int 4]) = true := by decide +kernel
theorem tabs_5 : tabs 5 = true := by decide +kernel
theorem nths_5 : nths 5 = true := by decide +kernel
theorem ords_5 : ((List.range (fct 5)).all fun k => okO 5 (nthF 5 (List.range 5) k)) = true := by decide +kernel
theorem chk_5 : isTt (F_check_gilbreath [.int 5]) = true := by decide +kernel
theorem tabs_6 : tabs 6 = true := by decide +kernel
theorem nths_6 : nths 6 = true := by decide +kernel
theorem ords_6 : ((List.range (fct 6)).all fun k => okO 6 (nthF 6 (List.range 6) k)) = true := by decide +kernel
theorem tabs_E {n : Nat} (h : 1 ≤ n ∧ n ≤ 6) : tabs n = true := by
  have hx : n = 1 ∨ n = 2 ∨ n = 3 ∨ n = 4 ∨ n = 5 ∨ n = 6 := by omega
  rcases hx with rfl | rfl | rfl | rfl | rfl | rfl
  · exact tabs_1
  · exact tabs_2
  · exact tabs_3
  · exact tabs_4
  · exact tabs_5
  · exact tabs_6
theorem nths_E {n : Nat} (h : 1 ≤ n ∧ n ≤ 6) : nths n = true := by
  have hx : n = 1 ∨ n = 2 ∨ n = 3 ∨ n = 4 ∨ n = 5 ∨ n = 6 := by omega
  rcases hx with rfl | rfl | rfl | rfl | rfl | rfl
  · exact nths_1
  · exact nths_2
  · exact nths_3
  · exact nths_4
  · exact nths_5
  · exact nths_6
theorem ords_E {n : Nat} (h : 1 ≤ n ∧ n ≤ 6) {o : List Nat} (ho : IsP o n) : okO n o = true := by
  have e := nth_rk (List.range n) o (asc_range n) ho.p
  rw [ho.len] at e
  have hk : rkS o < fct n := by have := rkS_lt o; rwa [ho.len] at this
  rw [← e]
  generalize rkS o = k at *
  have hx : n = 1 ∨ n = 2 ∨ n = 3 ∨ n = 4 ∨ n = 5 ∨ n = 6 := by omega
  rcases hx with rfl | rfl | rfl | rfl | rfl | rfl
  · exact List.all_eq_true.mp ords_1 k (List.mem_range.mpr hk)
  · exact List.all_eq_true.mp ords_2 k (List.mem_range.mpr hk)
  · exact List.all_eq_true.mp ords_3 k (List.mem_range.mpr hk)
  · exact List.all_eq_true.mp ords_4 k (List.mem_range.mpr hk)
  · exact List.all_eq_true.mp ords_5 k (List.mem_range.mpr hk)
  · exact List.all_eq_true.mp ords_6 k (List.mem_range.mpr hk)
theorem chkg_E {n : Nat} (h : 1 ≤ n ∧ n ≤ 5) : F_check_gilbreath [.int n] = .ok (.bool true) := by
  have hx : n = 1 ∨ n = 2 ∨ n = 3 ∨ n = 4 ∨ n = 5 := by omega
  rcases hx with rfl | rfl | rfl | rfl | rfl
  · exact isTt_eq chk_1
  · exact isTt_eq chk_2
  · exact isTt_eq chk_3
  · exact isTt_eq chk_4
  · exact isTt_eq chk_5
end DL
set_option Elab.async false
set_option linter.all false
set_option maxRecDepth 100000
set_option maxHeartbeats 1000000
/-! Plain: what the calls answer. -/
namespace DL
open PySem PySem.Spec PyProof.Rows L2
local macro_rules | `(tactic| trivial) => `(tactic| first | omega | (simp; done))

theorem nd_1 : ∀ c < 4, ∀ k < 7, 2 ^ c < k → c + 1 ≤ nd k := by decide
theorem nd_2 : ∀ c < 4, ∀ k < 7, ¬ 2 ^ c < k → c ≤ nd k → c = nd k := by decide
theorem nd_3 : ∀ k < 7, nd k ≤ 3 := by decide
theorem isr_E {o : List Nat} {n : Nat} (h : IsP o n) (hn : n ≤ 1000) : F_is_riffle [L o] = .ok (.bool (decide ((ris (invO o) n).length ≤ 2))) := by
  have ck := chk_E h (by omega)
  have rs := ris_E h (by omega)
  have ln : lenD [L (ris (invO o) n)] = some (.int ((ris (invO o) n).length : Int)) := lenD_L _
  generalize (ris (invO o) n).length = k at *
  generalize L (ris (invO o) n) = rr at *
  simp [F_is_riffle, callS_eq, g_is_riffle, ck, rs, ln]
  by_cases hk : k ≤ 2
  · have : (k : Int) ≤ 2 := by omega
    simp [hk, this]
  · have : ¬ (k : Int) ≤ 2 := by omega
    simp [hk, this]
theorem need_E {o : List Nat} {n : Nat} (h : IsP o n) (hn : n ≤ 1000) (h6 : (ris (invO o) n).length ≤ 6) : F_riffles_needed [L o] = .ok (.int (nd (ris (invO o) n).length : Nat)) := by
  have ck := chk_E h (by omega)
  have rs := ris_E h (by omega)
  have ln : lenD [L (ris (invO o) n)] = some (.int ((ris (invO o) n).length : Int)) := lenD_L _
  generalize (ris (invO o) n).length = k at *
  generalize L (ris (invO o) n) = rr at *
  generalize L o = oo at *
  have pw : ∀ c : Nat, c ≤ 100 → F_power_of_two [.int c] = .ok (.int (2 ^ c : Nat)) := fun c hc => by
    have := shl_E c (by omega)
    generalize (2 ^ c : Nat) = p at *
    simp [F_power_of_two, callS_eq, g_power_of_two, this]
  simp [F_riffles_needed, callS_eq, g_riffles_needed, ck]
  generalize hf : whileS _ _ _ _ = o
  have := while_turns hf (fun c γ => c ≤ 3 ∧ γ = [some oo, some (.int (c : Nat))] ∧ c ≤ nd k) (fun o => o = .nx [some oo, some (.int (nd k : Nat))]) 3 (by omega) ⟨by omega, rfl, by omega⟩ (fun c γ hc => hc.1) (by
    rintro c γ ⟨hc, rfl, hnd⟩
    have hp := pw c (by omega)
    by_cases hlt : 2 ^ c < k
    · left
      have hnext := nd_1 c (by omega) k (by omega) hlt
      have hnk := nd_3 k (by omega)
      generalize (2 ^ c : Nat) = p at *
      simp [hp, rs, ln, hlt]
      exact ⟨by omega, hnext⟩
    · right
      have he := nd_2 c (by omega) k (by omega) hlt hnd
      generalize (2 ^ c : Nat) = p at *
      rw [← he]
      simp [hp, rs, ln, hlt])
  rw [this]
  simp
def PNd (r : Nat) (i d : Nat) : Prop := d ≤ 3 ∧ d ≤ nd r ∧ (d < i ∨ d = i ∨ True) ∧ (2 ^ d < r → d = i)
theorem lneed_E {o : List Nat} {n : Nat} (h : IsP o n) (hn : 1 ≤ n ∧ n ≤ 6) (h6 : risL n o ≤ 6) : F__law_needed [L o] = .ok (.int (nd (risL n o) : Nat)) := by
  have ln : lenD [L o] = some (.int (n : Int)) := by rw [lenD_L, h.len]
  have rg : rg2 [.int 1, .int (n : Int)] = some (Ls (List.range' 1 (n - 1))) := by
    have := rg2_nat (a := 1) (n := n) (by omega) (by omega)
    exact this
  have rg10 := rg1_E 10 (by omega)
  have ix : ∀ c : Nat, c < n → idxD (L o) [.int (c : Int)] = some (.int (o.idxOf c : Nat)) := fun c hc => idxD_natE c o (h.mem.mpr hc)
  have hcomp : compR [5] (tgN 5) (b1 (b2 (eIdx (eV 0) (aC (eV 5) (aN))) (eIdx (eV 0) (aC (b2 (eV 5) (eC (.int 1)) subD) (aN))) ltD) boolO) (eV 5) (Ls (List.range' 1 (n - 1))) [some (L o), none, none, none, none, none] = .ok (Ls (((List.range' 1 (n - 1)).filter fun c => decide (o.idxOf c < o.idxOf (c - 1))).map fun c => c)) := by
    refine compEF (fun c => decide (o.idxOf c < o.idxOf (c - 1))) (fun c => c) (by rw [List.length_range']; omega) (fun c hc => ?_) (fun c hc _ => ?_)
    · have := List.mem_range'_1.mp hc
      have i1 := ix c (by omega)
      have i2 := ix (c - 1) (by omega)
      rw [show ((c - 1 : Nat) : Int) = (c : Int) - 1 by omega] at i2
      generalize o.idxOf c = x at *
      generalize o.idxOf (c - 1) = y at *
      simp [i1, i2]
    · simp
  have hlen : ((((List.range' 1 (n - 1)).filter fun c => decide (o.idxOf c < o.idxOf (c - 1))).map fun c => c).length : Int) + 1 = (risL n o : Nat) := by
    unfold risL
    rw [List.length_map]
    omega
  have hlen2 := hlen
  generalize risL n o = r at *
  generalize ((List.range' 1 (n - 1)).filter fun c => decide (o.idxOf c < o.idxOf (c - 1))).map (fun c => c) = fl at *
  simp [F__law_needed, callS_eq, g__law_needed, ln, rg]
  rw [hcomp]
  have he : (1 : Int) + fl.length = (r : Nat) := by omega
  rw [show (10 : Int).toNat = 10 from rfl] at rg10
  simp [he, rg10]
  generalize L o = oo at *
  generalize hf : forS _ _ _ _ = o'
  obtain ⟨γ, rfl, d, x, rfl, h1, h2, h3⟩ := for_R hf (fun i γ => ∃ (d : Nat) (x : Option D), γ = [some oo, some (.int (r : Nat)), some (.int (d : Nat)), some (.int (2 ^ d : Nat)), x, none] ∧ d ≤ 3 ∧ d ≤ nd r ∧ (2 ^ d < r → d = i)) ⟨0, none, rfl, by omega, by omega, fun _ => rfl⟩ (by
    rintro i hi γ ⟨d, x, rfl, h1, h2, h3⟩
    refine ⟨_, rfl, ?_⟩
    by_cases hlt : 2 ^ d < r
    · have hnext := nd_1 d (by omega) r (by omega) hlt
      have hnk := nd_3 r (by omega)
      have hp : (2 : Int) * (2 ^ d : Nat) = (2 ^ (d + 1) : Nat) := by rw [Nat.pow_succ]; omega
      have hd := h3 hlt
      have hb : (2 ^ d : Nat) < 100 := by omega
      have ml : mulD (.int 2) (.int (2 ^ d : Nat)) = some (.int (2 ^ (d + 1) : Nat)) := by rw [mulD_int (.inl (by omega)), hp]
      have hw : ∃ (d' : Nat) (x' : Option D), ([some oo, some (.int (r : Nat)), some (.int ((d + 1 : Nat) : Int)), some (.int (2 ^ (d + 1) : Nat)), some (.int (i : Int)), none] : Env) = [some oo, some (.int (r : Nat)), some (.int (d' : Nat)), some (.int (2 ^ d' : Nat)), x', none] ∧ d' ≤ 3 ∧ d' ≤ nd r ∧ (2 ^ d' < r → d' = i + 1) := ⟨d + 1, _, rfl, by omega, by omega, fun _ => by omega⟩
      generalize (2 ^ (d + 1) : Nat) = p1 at hw ml
      generalize (2 ^ d : Nat) = p0 at *
      simp [hlt, ml]
      simpa using hw
    · have hw : ∃ (d' : Nat) (x' : Option D), ([some oo, some (.int (r : Nat)), some (.int (d : Int)), some (.int (2 ^ d : Nat)), some (.int (i : Int)), none] : Env) = [some oo, some (.int (r : Nat)), some (.int (d' : Nat)), some (.int (2 ^ d' : Nat)), x', none] ∧ d' ≤ 3 ∧ d' ≤ nd r ∧ (2 ^ d' < r → d' = i + 1) := ⟨d, _, rfl, h1, h2, fun z => absurd z hlt⟩
      generalize hp0 : (2 ^ d : Nat) = p0 at hlt hw
      simp [hlt]
      simpa using hw)
  have hlt : ¬ 2 ^ d < r := fun z => by have := h3 z; omega
  have := nd_2 d (by omega) r (by omega) hlt h2
  rw [← this]
  simp
theorem isg_E {f : Nat} {r : List Nat} {n : Nat} (h : IsP (f :: r) n) (hn : n ≤ 1000) : F_is_gilbreath [L (f :: r)] = .ok (.bool (sprd f f r)) := by
  have hl := h.len
  rw [List.length_cons] at hl
  have ck := chk_E h (by omega)
  have sp := spread_E f r (by omega)
  generalize L (f :: r) = oo at *
  simp [F_is_gilbreath, callS_eq, g_is_gilbreath, ck, sp]
theorem gcut_E {f : Nat} {r : List Nat} {n : Nat} (h : IsP (f :: r) n) (hn : n ≤ 1000) : F_gilbreath_cut [L (f :: r)] = .ok (if sprd f f r = true then .int (f : Nat) else .none) := by
  have hl := h.len
  rw [List.length_cons] at hl
  have ck := chk_E h (by omega)
  have sp := spread_E f r (by omega)
  have ln : lenD [L (f :: r)] = some (.int (n : Int)) := by rw [lenD_L, h.len]
  have i0 : ixD (L (f :: r)) (.int 0) = some (.int (f : Int)) := by rw [ixD_L _ 0 (by simp; omega)]; rfl
  have hn0 : 0 < n := by omega
  generalize L (f :: r) = oo at *
  cases hs : sprd f f r <;> rw [hs] at sp <;> simp [F_gilbreath_cut, callS_eq, g_gilbreath_cut, ck, sp, ln, i0, hn0]
theorem rof_E (n : Nat) (h : 1 ≤ n ∧ n ≤ 200) : F_riffles_of [.int n] = .ok (.int ((2 ^ n : Nat) - n)) := by
  have sh := shl_E n (by omega)
  generalize (2 ^ n : Nat) = p at *
  have h0 : 0 < n := by omega
  simp [F_riffles_of, callS_eq, g_riffles_of, F_power_of_two, g_power_of_two, h0, sh]
theorem cri_E (n : Nat) (h : 1 ≤ n ∧ n ≤ 200) : F_count_riffles [.int n] = .ok (.int ((2 ^ n : Nat) - n)) := by
  have rf := rof_E n h
  have cb := cb_E n 1 200 (by omega)
  generalize ((2 ^ n : Nat) : Int) - n = p at *
  simp [F_count_riffles, callS_eq, g_count_riffles, cb, rf]
theorem cgi_E (n : Nat) (h : 1 ≤ n ∧ n ≤ 200) : F_count_gilbreath [.int n] = .ok (.int (2 ^ (n - 1) : Nat)) := by
  have rf := gilb_E n h
  have cb := cb_E n 1 200 (by omega)
  generalize (2 ^ (n - 1) : Nat) = p at *
  simp [F_count_gilbreath, callS_eq, g_count_gilbreath, cb, rf]
theorem nri_er (n : Nat) (h : 1 ≤ n ∧ n ≤ 200) (m : Int) (hm : m < 0 ∨ (2 ^ n : Nat) - (n : Int) ≤ m) : F_nth_riffle [.int n, .int m] = .er "OutOfRange" [("value", .int m), ("label", .str "OutOfRange")] := by
  have rf := rof_E n h
  have cb := cb_E n 1 200 (by omega)
  generalize ((2 ^ n : Nat) : Int) - n = p at *
  by_cases h0 : m < 0
  · simp [F_nth_riffle, callS_eq, g_nth_riffle, cb, rf, h0, flD]
  · have h1 : p ≤ m := by omega
    simp [F_nth_riffle, callS_eq, g_nth_riffle, cb, rf, h0, h1, flD]
theorem ngi_er (n : Nat) (h : 1 ≤ n ∧ n ≤ 200) (m : Nat) (hm : 2 ^ (n - 1) ≤ m) : F_nth_gilbreath [.int n, .int m] = .er "OutOfRange" [("value", .int m), ("label", .str "OutOfRange")] := by
  have rf := gilb_E n h
  have cb := cb_E n 1 200 (by omega)
  generalize (2 ^ (n - 1) : Nat) = p at *
  have h0 : ¬ (m : Int) < 0 := by omega
  simp [F_nth_gilbreath, callS_eq, g_nth_gilbreath, cb, rf, h0, hm, flD]
theorem cnts : ∀ n < 7, 1 ≤ n → (RT n).length + n = 2 ^ n ∧ (DT n).length = 2 ^ (n - 1) := by decide
end DL
set_option Elab.async false
set_option linter.all false
set_option maxRecDepth 100000
set_option maxHeartbeats 2000000
/-! Plain: the law of riffles. -/
namespace DL
open PySem PySem.Spec PyProof.Rows L2
local macro_rules | `(tactic| trivial) => `(tactic| first | omega | (simp; done))

/-- what holds of an order -/
theorem ord_facts {n : Nat} (h : 1 ≤ n ∧ n ≤ 6) {o : List Nat} (P : IsP o n) : ∃ f r, o = f :: r ∧ IsP (f :: r) n ∧ F_is_riffle [L o] = .ok (.bool (decide (o ∈ RT n))) ∧ F_riffles_needed [L o] = .ok (.int (nd (risL n o) : Nat)) ∧ F__law_needed [L o] = .ok (.int (nd (risL n o) : Nat)) ∧
    F_is_gilbreath [L o] = .ok (.bool (decide (o ∈ DT n))) ∧ (o ∈ DT n → F_rank_gilbreath [L o] = .ok (.int ((DT n).idxOf o : Nat)) ∧ F_gilbreath_cut [L o] = .ok (.int (f : Nat)) ∧ cutN n o = some f) ∧
    (o ∉ DT n → F_rank_gilbreath [L o] = .ok .none ∧ F_gilbreath_cut [L o] = .ok .none) := by
  have hl := P.len
  cases o with
  | nil => simp at hl; omega
  | cons f r =>
    have hok := ords_E h P
    unfold okO at hok
    simp only [Bool.and_eq_true, List.getD_cons_zero, List.drop_succ_cons, List.drop_zero, beq_iff_eq, decide_eq_true_eq] at hok
    obtain ⟨⟨⟨⟨⟨h1, h2⟩, h3⟩, h4⟩, h5⟩, h6⟩ := hok
    have isr := isr_E P (by omega)
    have need := need_E P (by omega) (by omega)
    have lneed := lneed_E P h h6
    have isg := isg_E P (by omega)
    have gc := gcut_E P (by omega)
    have hlh := cLH f r
    rw [List.length_cons] at hl
    have rk := rank_E f r P (by omega) h5 (by omega)
    rw [h1] at isr
    rw [h4] at need
    rw [h2] at isg
    refine ⟨f, r, rfl, P, isr, need, lneed, isg, fun hm => ?_, fun hm => ?_⟩
    · have hs : sprd f f r = true := by rw [h2]; exact decide_eq_true hm
      rw [hs, if_pos rfl] at rk gc
      simp only [hm, decide_true, Bool.not_true, Bool.false_or, Bool.and_eq_true, decide_eq_true_eq] at h3
      obtain ⟨h7, h8⟩ := h3
      rw [h7] at rk
      exact ⟨rk, gc, h8⟩
    · have hs : sprd f f r = false := by rw [h2]; exact decide_eq_false hm
      rw [hs, if_neg (by decide)] at rk gc
      exact ⟨rk, gc⟩
theorem tab_P {n : Nat} (h : 1 ≤ n ∧ n ≤ 6) {o : List Nat} (hm : o ∈ RT n ∨ o ∈ DT n) : IsP o n := by
  have t := tabs_E h
  unfold tabs at t
  simp only [Bool.and_eq_true, List.all_eq_true, decide_eq_true_eq] at t
  rcases hm with hm | hm
  · exact ⟨t.1.2 o hm⟩
  · exact ⟨t.2 o hm⟩
theorem laid_E {n : Nat} (h : 1 ≤ n ∧ n ≤ 6) {k : Nat} (hk : k ≤ n) : F__law_laid [L (dsc k), L (List.range' k (n - k))] = .ok (L (LT n k)) := by
  have t := tabs_E h
  unfold tabs at t
  simp only [Bool.and_eq_true, List.all_eq_true, decide_eq_true_eq] at t
  exact okLL_eq (t.1.1 k (List.mem_range.mpr (by omega)))
theorem nri_E {n : Nat} (h : 1 ≤ n ∧ n ≤ 6) {i : Nat} (hi : i < (RT n).length) : F_nth_riffle [.int n, .int i] = .ok (L ((RT n).getD i [])) := by
  have t := nths_E h
  unfold nths at t
  simp only [Bool.and_eq_true, List.all_eq_true, decide_eq_true_eq] at t
  exact okL_eq (t.1 i (List.mem_range.mpr hi))
theorem ngi_E {n : Nat} (h : 1 ≤ n ∧ n ≤ 6) {i : Nat} (hi : i < (DT n).length) : F_nth_gilbreath [.int n, .int i] = .ok (L ((DT n).getD i [])) := by
  have t := nths_E h
  unfold nths at t
  simp only [Bool.and_eq_true, List.all_eq_true, decide_eq_true_eq] at t
  exact okL_eq (t.2 i (List.mem_range.mpr hi))
theorem beq_inst : (instBEqOfDecidableEq : BEq (List Nat)) = List.instBEq := by
  have h : ∀ a b : List Nat, (instBEqOfDecidableEq : BEq (List Nat)).beq a b = (List.instBEq : BEq (List Nat)).beq a b := fun a b => by
    rw [Bool.eq_iff_iff]
    exact ⟨fun h => (@beq_iff_eq (List Nat) List.instBEq _ a b).mpr ((@beq_iff_eq (List Nat) instBEqOfDecidableEq _ a b).mp h), fun h => (@beq_iff_eq (List Nat) instBEqOfDecidableEq _ a b).mpr ((@beq_iff_eq (List Nat) List.instBEq _ a b).mp h)⟩
  exact congrArg BEq.mk (funext fun a => funext fun b => h a b)
theorem find_succ (p : Nat → Bool) (i : Nat) : (List.range (i + 1)).find? p = ((List.range i).find? p).or (if p i = true then some i else none) := by
  rw [List.range_succ, List.find?_append]
  congr 1
  cases h : p i <;> simp [h]
def cutO : Option Nat → D
  | none => .none
  | some k => .int (k : Nat)
theorem law_k11_at (sc : D) (c : Int → Int) (hc : Scr sc c) : F_law [sc] = .ok (.bool true) := by
  have C := hc.cell
  obtain ⟨n, hn, h⟩ : ∃ n : Nat, 1 + c 0 % 6 = (n : Int) ∧ 1 ≤ n ∧ n ≤ 6 := ⟨(1 + c 0 % 6).toNat, by omega, by omega⟩
  obtain ⟨a1, a2⟩ := all_E h
  obtain ⟨n1, n2⟩ := cnts n (by omega) h.1
  have rpos : 0 < (RT n).length := by
    have : n < 2 ^ n := Nat.lt_two_pow_self
    omega
  have dpos : 0 < (DT n).length := by rw [n2]; exact Nat.pos_of_ne_zero (by simp)
  have lR : lenD [L (RT n)] = some (.int ((RT n).length : Int)) := lenD_L _
  have lD : lenD [L (DT n)] = some (.int ((DT n).length : Int)) := lenD_L _
  obtain ⟨hE, P0⟩ := osz_spec ((c 1).natAbs : Int) n (by omega)
  simp (disch := trivial) [F_law, callS_eq, g_law, r_law_0_eq, t_law_0, C, modD_int, hn]
  rw [r_law_1_eq]
  simp [t_law_1, a1]
  rw [r_law_2_eq]
  simp [t_law_2, a2]
  rw [r_law_3_eq]
  simp (disch := trivial) [t_law_3, C, hE]
  generalize osz ((c 1).natAbs : Int) n = o0 at *
  have pick : ∀ T : List (List Nat), 0 < T.length → ∃ o ∈ T, ixD (L T) (.int (c 1 % (T.length : Int))) = some (E o) := fun T hT => by
    have m0 := Int.emod_nonneg (c 1) (show (T.length : Int) ≠ 0 by omega)
    have m1 := Int.emod_lt_of_pos (c 1) (show (0 : Int) < T.length by omega)
    refine ⟨gt T (c 1 % (T.length : Int)), ?_, ixD_L T _ (by omega)⟩
    unfold gt
    rw [if_neg (by omega), List.getD_eq_getElem?_getD, List.getElem?_eq_getElem (by omega)]
    exact List.getElem_mem _
  have four : ∃ o, IsP o n ∧ t_law_4 [some sc, some (.int n), some (L (RT n)), some (L (DT n)), some (L o0), none, none, none, none, none, none, none, none, none, none, none, none] = .nx [some sc, some (.int n), some (L (RT n)), some (L (DT n)), some (L o), none, none, none, none, none, none, none, none, none, none, none, none] := by
    by_cases h1 : c 2 % 3 = 1
    · obtain ⟨o, hm, hx⟩ := pick (RT n) rpos
      refine ⟨o, tab_P h (.inl hm), ?_⟩
      have hx : ixD (L (RT n)) (.int (c 1 % ((RT n).length : Int))) = some (L o) := hx
      have md := modD_int (i := c 1) (j := ((RT n).length : Int)) (by omega)
      have md3 := modD_int (i := c 2) (j := 3) (by omega)
      generalize L (RT n) = rt at *
      generalize L (DT n) = dt at *
      generalize c 1 % ((RT n).length : Int) = q at *
      simp (disch := trivial) [t_law_4, C, md3, h1, lR, md, hx]
    · refine ⟨o0, P0, ?_⟩
      generalize L (RT n) = rt at *
      generalize L (DT n) = dt at *
      simp (disch := trivial) [t_law_4, C, modD_int, h1]
  obtain ⟨o1, P1, h4⟩ := four
  rw [r_law_4_eq, h4, thn_nx]
  have five : ∃ o, IsP o n ∧ t_law_5 [some sc, some (.int n), some (L (RT n)), some (L (DT n)), some (L o1), none, none, none, none, none, none, none, none, none, none, none, none] = .nx [some sc, some (.int n), some (L (RT n)), some (L (DT n)), some (L o), none, none, none, none, none, none, none, none, none, none, none, none] := by
    by_cases h1 : c 2 % 3 = 2
    · obtain ⟨o, hm, hx⟩ := pick (DT n) dpos
      refine ⟨o, tab_P h (.inr hm), ?_⟩
      have hx : ixD (L (DT n)) (.int (c 1 % ((DT n).length : Int))) = some (L o) := hx
      have md := modD_int (i := c 1) (j := ((DT n).length : Int)) (by omega)
      have md3 := modD_int (i := c 2) (j := 3) (by omega)
      generalize L (RT n) = rt at *
      generalize L (DT n) = dt at *
      generalize c 1 % ((DT n).length : Int) = q at *
      simp (disch := trivial) [t_law_5, C, md3, h1, lD, md, hx]
    · refine ⟨o1, P1, ?_⟩
      generalize L (RT n) = rt at *
      generalize L (DT n) = dt at *
      simp (disch := trivial) [t_law_5, C, modD_int, h1]
  obtain ⟨o, P, h5⟩ := five
  rw [r_law_5_eq, h5, thn_nx]
  clear h4 h5 pick P0 P1 hE
  obtain ⟨f, r, ho, P', isr, need, lneed, isg, yes, no⟩ := ord_facts h P
  have lst : lstD [L o] = some (Ls o) := rfl
  have inR : inD false (L o) (L (RT n)) = some (.bool (decide (o ∈ RT n))) := by rw [inD_listN]; simp
  have inDl : inD false (L o) (L (DT n)) = some (.bool (decide (o ∈ DT n))) := by rw [inD_listN]; simp
  have T0 := told0_ok (vb := .int 0) isr
  have T1 := told1_ok (vb := .int 0) need
  have T3 := told3_ok (vb := .int 0) isg
  have ib : ∀ b : Bool, isiD "bool" (.bool b) = some (.bool true) := fun _ => rfl
  have j1 : ∀ x y : D, ixD (.tuple [x, y]) (.int 1) = some y := fun _ _ => rfl
  have eo : (.list (Ls o) : D) = L o := rfl
  generalize hdR : decide (o ∈ RT n) = bR at *
  generalize hdD : decide (o ∈ DT n) = bD at *
  rw [r_law_6_eq]
  simp [t_law_6, lst, T0]
  rw [r_law_7_eq]
  simp [t_law_7, lst, inR, j1, ib, T1, lneed]
  rw [r_law_8_eq]
  simp [t_law_8, lst, T3]
  rw [r_law_9_eq]
  simp [t_law_9, inDl, j1, ib]
  rw [r_law_10_eq]
  simp [t_law_10]
  rw [r_law_11_eq]
  simp [t_law_11]
  rw [r_law_12_eq]
  have twelve : ∃ (a b c' d : Option D), (t_law_12 [some sc, some (.int n), some (L (RT n)), some (L (DT n)), some (L o), some (.tuple [.str (Str.ofString "value"), .bool bD]), some .none, some .none, none, none, none, none, none, none, none, none, none] = .nx [some sc, some (.int n), some (L (RT n)), some (L (DT n)), some (L o), a, b, c', none, none, none, none, none, none, none, d, none]) ∧
      ∃ (x y : D), b = some x ∧ c' = some y ∧ F_rank_gilbreath [L o] = .ok x ∧ F_gilbreath_cut [L o] = .ok y ∧ Ok 63 x ∧ Ok 63 y := by
    cases hb : bD with
    | false =>
      rw [hb] at hdD inDl
      have hm : o ∉ DT n := of_decide_eq_false hdD
      obtain ⟨r1, r2⟩ := no hm
      refine ⟨some (.tuple [.str (Str.ofString "value"), .bool false]), some .none, some .none, none, ?_, .none, .none, rfl, rfl, r1, r2, by simp, by simp⟩
      generalize L (RT n) = rt at *
      generalize L (DT n) = dt at *
      generalize L o = oo at *
      simp [t_law_12, inDl]
    | true =>
      rw [hb] at hdD inDl
      have hm : o ∈ DT n := of_decide_eq_true hdD
      obtain ⟨r1, r2, r3⟩ := yes hm
      have ix : idxD (L (DT n)) [L o] = some (.int ((DT n).idxOf o : Nat)) := by
        have := idxD_E o (DT n) (by decide) hm
        rw [beq_inst] at this
        exact this
      have rg := rg1_E ((n : Int) + 1) (by omega)
      rw [show ((n : Int) + 1).toNat = n + 1 by omega] at rg
      have lay := fun k hk => laid_E (n := n) h (k := k) hk
      have inL : ∀ k, inD false (L o) (L (LT n k)) = some (.bool (decide (o ∈ LT n k))) := fun k => by rw [inD_listN]; simp
      generalize L (RT n) = rt at *
      generalize hoo : L o = oo at *
      generalize hrr : t_law_12 [some sc, some (.int n), some rt, some (L (DT n)), some oo, some (.tuple [.str (Str.ofString "value"), .bool true]), some .none, some .none, none, none, none, none, none, none, none, none, none] = rr
      simp [t_law_12, inDl, ix, rg] at hrr
      generalize hf : forS _ _ _ _ = o' at hrr
      obtain ⟨γ, rfl, d, rfl⟩ := for_R hf (fun i γ => ∃ (d : Option D), γ = [some sc, some (.int n), some rt, some (L (DT n)), some oo, some (.tuple [.str (Str.ofString "value"), .bool true]), some (.int ((DT n).idxOf o : Nat)), some (cutO ((List.range i).find? fun k => decide (o ∈ LT n k))), none, none, none, none, none, none, none, d, none]) ⟨none, rfl⟩ (by
        rintro i hi γ ⟨d, rfl⟩
        refine ⟨_, rfl, ?_⟩
        have lk := lay i (by omega)
        have il := inL i
        have g1 := rg1_E (i : Int) (by omega)
        rw [Int.toNat_natCast] at g1
        have g2 : rg2 [.int (i : Int), .int (n : Int)] = some (Ls (List.range' i (n - i))) := rg2_nat (by omega) (by omega)
        have hfd := find_succ (fun k => decide (o ∈ LT n k)) i
        rw [hfd]
        generalize ((List.range i).find? fun k => decide (o ∈ LT n k)) = old at *
        generalize decide (o ∈ LT n i) = bz at *
        have in1 : isNoneD (.none : D) = true := rfl
        have in2 : ∀ k : Int, isNoneD (.int k : D) = false := fun _ => rfl
        generalize hdt : L (DT n) = dt at *
        generalize (DT n).idxOf o = ixx at *
        cases old with
        | some k =>
          show turn _ _ ((ifS _ _ _) [some sc, some (.int n), some rt, some dt, some oo, some (.tuple [.str (Str.ofString "value"), .bool true]), some (.int (ixx : Nat)), some (.int (k : Nat)), none, none, none, none, none, none, none, some (.int (i : Int)), none])
          simp [in2]
          rfl
        | none =>
          show turn _ _ ((ifS _ _ _) [some sc, some (.int n), some rt, some dt, some oo, some (.tuple [.str (Str.ofString "value"), .bool true]), some (.int (ixx : Nat)), some .none, none, none, none, none, none, none, none, some (.int (i : Int)), none])
          simp [in1, g1]
          rw [compE (fun j : Nat => i - 1 - j) (by simp; omega) (fun j hj => by
            have := List.mem_range.mp hj
            simp
            omega)]
          simp [g2]
          rw [compE (fun j : Nat => j) (by rw [List.length_range']; omega) (fun j hj => by simp)]
          rw [List.map_id']
          have lk' : F__law_laid [L (List.map (fun j => i - 1 - j) (List.range i)), L (List.range' i (n - i))] = .ok (L (LT n i)) := lk
          simp [lk', il]
          cases bz
          · simp
            rfl
          · simp
            rfl)
      have r3' : (List.range (n + 1)).find? (fun k => decide (o ∈ LT n k)) = some f := r3
      rw [r3'] at hrr
      exact ⟨_, _, _, d, hrr.symm, .int ((DT n).idxOf o : Nat), .int (f : Nat), rfl, rfl, r1, r2, ok_int 63 _, ok_int 63 _⟩
  obtain ⟨va, vb, vc, vd, h12, rk, ct, rfl, rfl, rkE, ctE, ok1, ok2⟩ := twelve
  rw [h12, thn_nx, r_law_13_eq]
  have T5 := told5_ok (vb := .int 0) rkE
  have T6 := told6_ok (vb := .int 0) ctE
  have ne : ∀ d : D, Ok 63 d → neD (.tuple [.str (Str.ofString "value"), d]) (.tuple [.str (Str.ofString "value"), d]) = some (.bool false) := fun d hd => neD_self (ok_tuple_iff.mpr (by
    intro x hx
    simp only [List.mem_cons, List.not_mem_nil, or_false] at hx
    rcases hx with rfl | rfl
    · simp
    · exact hd))
  have ne1 := ne rk ok1
  have ne2 := ne ct ok2
  simp [t_law_13, lst, T5, T6, ne1, ne2]
  rw [r_law_14_eq]
  have m0 := Int.emod_nonneg (c 3) (show ((RT n).length : Int) ≠ 0 by omega)
  have m1 := Int.emod_lt_of_pos (c 3) (show (0 : Int) < (RT n).length by omega)
  have md := modD_int (i := c 3) (j := ((RT n).length : Int)) (by omega)
  obtain ⟨i, hi, hi1⟩ : ∃ i : Nat, c 3 % ((RT n).length : Int) = (i : Int) ∧ i < (RT n).length := ⟨(c 3 % ((RT n).length : Int)).toNat, by omega, by omega⟩
  have m0 := Int.emod_nonneg (c 3) (show ((DT n).length : Int) ≠ 0 by omega)
  have m1 := Int.emod_lt_of_pos (c 3) (show (0 : Int) < (DT n).length by omega)
  have md2 := modD_int (i := c 3) (j := ((DT n).length : Int)) (by omega)
  obtain ⟨j, hj, hj1⟩ : ∃ j : Nat, c 3 % ((DT n).length : Int) = (j : Int) ∧ j < (DT n).length := ⟨(c 3 % ((DT n).length : Int)).toNat, by omega, by omega⟩
  rw [hi] at md
  rw [hj] at md2
  have T2 := told2_ok (nri_E h hi1)
  have T4 := told4_ok (ngi_E h hj1)
  have cr := cri_E n (by omega)
  have cg := cgi_E n (by omega)
  rw [show ((2 ^ n : Nat) : Int) - n = ((RT n).length : Int) by omega] at cr
  rw [← n2] at cg
  have T7 := told7_ok (vb := .int 0) cr
  have T8 := told8_ok (vb := .int 0) cg
  have T2e := told2_OutOfRange (nri_er n (by omega) ((RT n).length : Int) (.inr (by omega)))
  have T4e := told4_OutOfRange (ngi_er n (by omega) (DT n).length (by omega))
  have ixi : ixD (L (RT n)) (.int (i : Int)) = some (L ((RT n).getD i [])) := by
    rw [ixD_L (RT n) i (by omega)]
    unfold gt
    rw [if_neg (by omega), Int.toNat_natCast]
    rfl
  have ixj : ixD (L (DT n)) (.int (j : Int)) = some (L ((DT n).getD j [])) := by
    rw [ixD_L (DT n) j (by omega)]
    unfold gt
    rw [if_neg (by omega), Int.toNat_natCast]
    rfl
  have okI : ∀ xs : List Nat, Ok 63 (L xs) := fun xs => ok_E xs (by decide)
  have ne3 := ne _ (okI ((RT n).getD i []))
  have ne4 := ne _ (okI ((DT n).getD j []))
  clear h12 T0 T1 T3 T5 T6 ne1 ne2 a1 a2 rkE ctE isr need lneed isg yes no inR inDl hi hj
  generalize (RT n).getD i [] = ri at *
  generalize (DT n).getD j [] = dj at *
  generalize L ri = rri at *
  generalize L dj = ddj at *
  generalize hlr : ((RT n).length : Int) = lr at *
  generalize hld : ((DT n).length : Int) = ld at *
  generalize L (RT n) = rt at *
  generalize L (DT n) = dt at *
  simp (disch := trivial) [t_law_14, C, lR, md]
  rw [r_law_15_eq]
  simp [t_law_15, T2, ixi, ne3, T7, lR, T2e]
  rw [r_law_16_eq]
  simp (disch := trivial) [t_law_16, C, lD, md2]
  rw [r_law_17_eq]
  simp [t_law_17, T4, ixj, ne4, T8, lD, T4e]
  rw [r_law_18_eq]
  obtain ⟨w, hw, hw1⟩ : ∃ w : Nat, 1 + c 4 % 200 = (w : Int) ∧ 1 ≤ w ∧ w ≤ 200 := ⟨(1 + c 4 % 200).toNat, by omega, by omega⟩
  simp (disch := trivial) [t_law_18, C, modD_int, hw]
  rw [r_law_19_eq]
  simp [t_law_19]
  rw [r_law_20_eq]
  have rgw := rg1_E (w : Int) (by omega)
  rw [Int.toNat_natCast] at rgw
  have twenty : ∃ x, t_law_20 [some sc, some (.int n), some rt, some dt, some (L o), va, some rk, some ct, some (.int i), some (.int j), some (.int w), some (.int 1), none, none, none, vd, none] = .nx [some sc, some (.int n), some rt, some dt, some (L o), va, some rk, some ct, some (.int i), some (.int j), some (.int w), some (.int (2 ^ w : Nat)), x, none, none, vd, none] := by
    generalize hrr : t_law_20 [some sc, some (.int n), some rt, some dt, some (L o), va, some rk, some ct, some (.int i), some (.int j), some (.int w), some (.int 1), none, none, none, vd, none] = rr
    generalize L o = oo at *
    simp [t_law_20, rgw] at hrr
    generalize hf : forS _ _ _ _ = o' at hrr
    obtain ⟨γ, rfl, x, rfl⟩ := for_R hf (fun k γ => ∃ x, γ = [some sc, some (.int n), some rt, some dt, some oo, va, some rk, some ct, some (.int i), some (.int j), some (.int w), some (.int (2 ^ k : Nat)), x, none, none, vd, none]) ⟨none, rfl⟩ (by
      rintro k hk γ ⟨x, rfl⟩
      refine ⟨_, rfl, ?_⟩
      have hm := mulD_int (i := 2) (j := ((2 ^ k : Nat) : Int)) (.inl (by omega))
      have e : (2 : Int) * (2 ^ k : Nat) = (2 ^ (k + 1) : Nat) := by rw [Nat.pow_succ]; omega
      rw [e] at hm
      generalize (2 ^ (k + 1) : Nat) = p1 at *
      generalize (2 ^ k : Nat) = p0 at *
      simp [hm])
    exact ⟨x, hrr.symm⟩
  obtain ⟨x20, h20⟩ := twenty
  rw [h20, thn_nx]
  have hpw : (2 ^ w : Nat) = 2 * 2 ^ (w - 1) := by
    obtain ⟨v, rfl⟩ : ∃ v, w = v + 1 := ⟨w - 1, by omega⟩
    rw [Nat.add_sub_cancel, Nat.pow_succ]; omega
  have cr := cri_E w hw1
  have cg := cgi_E w hw1
  have T7 := told7_ok (vb := .int 0) cr
  have T8 := told8_ok (vb := .int 0) cg
  have hpos : 0 < 2 ^ (w - 1) := Nat.pos_of_ne_zero (by simp)
  have sm0 := Int.emod_nonneg (c 5) (show ((2 ^ (w - 1) : Nat) : Int) ≠ 0 by omega)
  have sm1 := Int.emod_lt_of_pos (c 5) (show (0 : Int) < (2 ^ (w - 1) : Nat) by omega)
  have mds := modD_int (i := c 5) (j := ((2 ^ (w - 1) : Nat) : Int)) (by omega)
  obtain ⟨sp, hsp, hsp1⟩ : ∃ sp : Nat, c 5 % ((2 ^ (w - 1) : Nat) : Int) = (sp : Int) ∧ sp < 2 ^ (w - 1) := ⟨(c 5 % ((2 ^ (w - 1) : Nat) : Int)).toNat, by omega, by omega⟩
  rw [hsp] at mds
  obtain ⟨g, m', hg1, hg2, hg3, hgE⟩ := nth_E w sp hw1 hsp1
  obtain ⟨gr, gi⟩ := gil_rank hg1 (by omega) hg3
  rw [← hg2] at gr
  have TG := told4_ok hgE
  have TR := told5_ok (vb := .int 0) gr
  have TI := told3_ok (vb := .int 0) gi
  have fd := fdivW_int (i := ((2 ^ w : Nat) : Int)) (j := 2) (by omega) (by omega)
  rw [show ((2 ^ w : Nat) : Int) / 2 = ((2 ^ (w - 1) : Nat) : Int) by rw [hpw]; omega] at fd
  clear h20 hgE gr gi hsp sm0 sm1 cr cg hpos hg2 hsp1
  generalize L (gil w g m') = gg at *
  generalize (2 ^ (w - 1) : Nat) = p1 at *
  generalize (2 ^ w : Nat) = p0 at *
  have j0 : ∀ x y : D, ixD (.tuple [x, y]) (.int 0) = some x := fun _ _ => rfl
  rw [r_law_21_eq]
  simp [t_law_21, T7, T8, fd]
  rw [r_law_22_eq]
  simp (disch := trivial) [t_law_22, C, fd, mds]
  rw [r_law_23_eq]
  simp [t_law_23, TG]
  rw [r_law_24_eq]
  simp [t_law_24, j0, j1, TR, TI]
  rw [r_law_25_eq]
  have cgk : F_check_gilbreath [.int (if (5 : Int) < n then 5 else n)] = .ok (.bool true) := by
    by_cases h5 : (5 : Int) < n
    · rw [if_pos h5]; exact chkg_E (n := 5) (by omega)
    · rw [if_neg h5]; exact chkg_E (n := n) (by omega)
  have mn : minD [.int (n : Int), .int 5] = some (.int (if (5 : Int) < n then 5 else n)) := minD_2 _ _
  generalize (if (5 : Int) < n then (5 : Int) else n) = mm at *
  simp [t_law_25, mn, cgk]
  rw [r_law_26_eq]
  have cb0 := cb_er 0 1 200 (.inl (by omega))
  have cb201 := cb_er 201 1 200 (.inr (by omega))
  have e1 : F_nth_riffle [.int 0, .int (-1)] = .er "OutOfRange" [("value", .int 0), ("label", .str "OutOfRange")] := by simp [F_nth_riffle, callS_eq, g_nth_riffle, cb0]
  have e2 : F_nth_riffle [.int 201, .int (-1)] = .er "OutOfRange" [("value", .int 201), ("label", .str "OutOfRange")] := by simp [F_nth_riffle, callS_eq, g_nth_riffle, cb201]
  have e3 := nri_er 5 (by omega) (-1) (.inl (by omega))
  have e4 : F_count_gilbreath [.int 0] = .er "OutOfRange" [("value", .int 0), ("label", .str "OutOfRange")] := by simp [F_count_gilbreath, callS_eq, g_count_gilbreath, cb0]
  have E1 := told2_OutOfRange e1
  have E2 := told2_OutOfRange e2
  have E3 := told2_OutOfRange e3
  have E4 := told8_OutOfRange (vb := .int 0) e4
  simp at E3
  simp [t_law_26, E1, E2, E3, E4]
  have k1 := chk_no [0, 2] (by decide) (by simp)
  have k2 := chk_no [1] (by decide) (by simp)
  have k3 := chk_no [0, 0] (by decide) (by simp)
  have f1 : F_is_riffle [L [(0 : Int), 2]] = .er "NotOrder" [("label", .str "NotOrder")] := by simp [F_is_riffle, callS_eq, g_is_riffle, k1]
  have f2 : F_is_gilbreath [L [(1 : Int)]] = .er "NotOrder" [("label", .str "NotOrder")] := by simp [F_is_gilbreath, callS_eq, g_is_gilbreath, k2]
  have f3 : F_gilbreath_cut [L [(0 : Int), 0]] = .er "NotOrder" [("label", .str "NotOrder")] := by simp [F_gilbreath_cut, callS_eq, g_gilbreath_cut, k3]
  have G1 := told0_NotOrder (vb := .int 0) f1
  have G2 := told3_NotOrder (vb := .int 0) f2
  have G3 := told6_NotOrder (vb := .int 0) f3
  simp [r_law_27, t_law_27, G1, G2, G3]
theorem law_plain_k11 : ∀ ns : List Int, ns.length ≤ 63 → F_law [rolD (ns.map PyData.int)] = .ok (.bool true) := law_of_scr law_k11_at
end DL
set_option Elab.async false
set_option linter.all false
set_option maxRecDepth 100000
set_option maxHeartbeats 8000000

/-! The walk: each def computes what its function says (printed by gen.py). -/
namespace DL
open PySem PySem.Spec PyProof.Rows L2

def topS (i : Nat) : Stmt := PySem.Challenge.pw_trickbook_k11_riffles.main.body.getD i (.Pass ⟨0, 0, 0, 0⟩)
abbrev s_check_between : Stmt := topS 5
abbrev s_is_order : Stmt := topS 7
abbrev s_check_order : Stmt := topS 8
abbrev s_backward : Stmt := topS 9
abbrev s_rising_of : Stmt := topS 10
abbrev s_factorial : Stmt := topS 11
abbrev s_order_at : Stmt := topS 12
abbrev s_combinations : Stmt := topS 13
abbrev s_power_of_two : Stmt := topS 16
abbrev s_is_riffle : Stmt := topS 17
abbrev s_riffles_needed : Stmt := topS 18
abbrev s_riffles_of : Stmt := topS 19
abbrev s_count_riffles : Stmt := topS 20
abbrev s_merged_at : Stmt := topS 21
abbrev s_nth_riffle : Stmt := topS 22
abbrev s_is_spread : Stmt := topS 23
abbrev s_is_gilbreath : Stmt := topS 24
abbrev s_gilbreaths_of : Stmt := topS 25
abbrev s_count_gilbreath : Stmt := topS 26
abbrev s_nth_gilbreath : Stmt := topS 27
abbrev s_rank_gilbreath : Stmt := topS 28
abbrev s_gilbreath_cut : Stmt := topS 29
abbrev s_lists_of : Stmt := topS 31
abbrev s_laid : Stmt := topS 32
abbrev s_made_orders : Stmt := topS 35
abbrev s_all_orders : Stmt := topS 37
abbrev s_check_gilbreath : Stmt := topS 36
abbrev s__law_cell : Stmt := topS 39
abbrev s__law_draw : Stmt := topS 40
abbrev s__law_of_size : Stmt := topS 41
abbrev s__law_told : Stmt := topS 42
abbrev s__law_laid : Stmt := topS 43
abbrev s__law_all : Stmt := topS 44
abbrev s__law_needed : Stmt := topS 45
abbrev s_law : Stmt := topS 46
theorem sc_check_between : FnScope ["value", "least", "most"] ["value", "least", "most"] (defScope s_check_between) := ⟨rfl, rfl, rfl, by decide +kernel, rfl, by decide +kernel, by decide +kernel⟩
theorem sc_is_order : FnScope ["order"] ["order"] (defScope s_is_order) := ⟨rfl, rfl, rfl, by decide +kernel, rfl, by decide +kernel, by decide +kernel⟩
theorem sc_check_order : FnScope ["order"] ["order"] (defScope s_check_order) := ⟨rfl, rfl, rfl, by decide +kernel, rfl, by decide +kernel, by decide +kernel⟩
theorem sc_backward : FnScope ["order", "found", "place"] ["order"] (defScope s_backward) := ⟨rfl, rfl, rfl, by decide +kernel, rfl, by decide +kernel, by decide +kernel⟩
theorem sc_rising_of : FnScope ["order", "goes", "found", "card"] ["order"] (defScope s_rising_of) := ⟨rfl, rfl, rfl, by decide +kernel, rfl, by decide +kernel, by decide +kernel⟩
theorem sc_factorial : FnScope ["n", "product", "number"] ["n"] (defScope s_factorial) := ⟨rfl, rfl, rfl, by decide +kernel, rfl, by decide +kernel, by decide +kernel⟩
theorem sc_order_at : FnScope ["cards", "n", "digits", "size", "left", "found", "digit"] ["cards", "n"] (defScope s_order_at) := ⟨rfl, rfl, rfl, by decide +kernel, rfl, by decide +kernel, by decide +kernel⟩
theorem sc_combinations : FnScope ["n", "k", "count", "at"] ["n", "k"] (defScope s_combinations) := ⟨rfl, rfl, rfl, by decide +kernel, rfl, by decide +kernel, by decide +kernel⟩
theorem sc_power_of_two : FnScope ["n"] ["n"] (defScope s_power_of_two) := ⟨rfl, rfl, rfl, by decide +kernel, rfl, by decide +kernel, by decide +kernel⟩
theorem sc_is_riffle : FnScope ["order"] ["order"] (defScope s_is_riffle) := ⟨rfl, rfl, rfl, by decide +kernel, rfl, by decide +kernel, by decide +kernel⟩
theorem sc_riffles_needed : FnScope ["order", "count"] ["order"] (defScope s_riffles_needed) := ⟨rfl, rfl, rfl, by decide +kernel, rfl, by decide +kernel, by decide +kernel⟩
theorem sc_riffles_of : FnScope ["n"] ["n"] (defScope s_riffles_of) := ⟨rfl, rfl, rfl, by decide +kernel, rfl, by decide +kernel, by decide +kernel⟩
theorem sc_count_riffles : FnScope ["cards"] ["cards"] (defScope s_count_riffles) := ⟨rfl, rfl, rfl, by decide +kernel, rfl, by decide +kernel, by decide +kernel⟩
theorem sc_merged_at : FnScope ["upper", "lower", "n", "found", "one", "other", "count"] ["upper", "lower", "n"] (defScope s_merged_at) := ⟨rfl, rfl, rfl, by decide +kernel, rfl, by decide +kernel, by decide +kernel⟩
theorem sc_nth_riffle : FnScope ["cards", "n", "start", "count", "cut", "rest"] ["cards", "n"] (defScope s_nth_riffle) := ⟨rfl, rfl, rfl, by decide +kernel, rfl, by decide +kernel, by decide +kernel⟩
theorem sc_is_spread : FnScope ["order", "card", "low", "high"] ["order"] (defScope s_is_spread) := ⟨rfl, rfl, rfl, by decide +kernel, rfl, by decide +kernel, by decide +kernel⟩
theorem sc_is_gilbreath : FnScope ["order"] ["order"] (defScope s_is_gilbreath) := ⟨rfl, rfl, rfl, by decide +kernel, rfl, by decide +kernel, by decide +kernel⟩
theorem sc_gilbreaths_of : FnScope ["n"] ["n"] (defScope s_gilbreaths_of) := ⟨rfl, rfl, rfl, by decide +kernel, rfl, by decide +kernel, by decide +kernel⟩
theorem sc_count_gilbreath : FnScope ["cards"] ["cards"] (defScope s_count_gilbreath) := ⟨rfl, rfl, rfl, by decide +kernel, rfl, by decide +kernel, by decide +kernel⟩
theorem sc_nth_gilbreath : FnScope ["cards", "n", "first"] ["cards", "n"] (defScope s_nth_gilbreath) := ⟨rfl, rfl, rfl, by decide +kernel, rfl, by decide +kernel, by decide +kernel⟩
theorem sc_rank_gilbreath : FnScope ["order", "rank", "card", "low", "high", "first"] ["order"] (defScope s_rank_gilbreath) := ⟨rfl, rfl, rfl, by decide +kernel, rfl, by decide +kernel, by decide +kernel⟩
theorem sc_gilbreath_cut : FnScope ["order"] ["order"] (defScope s_gilbreath_cut) := ⟨rfl, rfl, rfl, by decide +kernel, rfl, by decide +kernel, by decide +kernel⟩
theorem sc_lists_of : FnScope ["size", "count", "lists", "place", "one"] ["size", "count"] (defScope s_lists_of) := ⟨rfl, rfl, rfl, by decide +kernel, rfl, by decide +kernel, by decide +kernel⟩
theorem sc_laid : FnScope ["upper", "lower", "places", "told", "found", "place", "one", "other"] ["upper", "lower", "places"] (defScope s_laid) := ⟨rfl, rfl, rfl, by decide +kernel, rfl, by decide +kernel, by decide +kernel⟩
theorem sc_made_orders : FnScope ["n", "way", "cards", "found", "count", "upper", "places", "order", "at"] ["n", "way"] (defScope s_made_orders) := ⟨rfl, rfl, rfl, by decide +kernel, rfl, by decide +kernel, by decide +kernel⟩
theorem sc_all_orders : FnScope ["n", "at"] ["n"] (defScope s_all_orders) := ⟨rfl, rfl, rfl, by decide +kernel, rfl, by decide +kernel, by decide +kernel⟩
theorem sc_check_gilbreath : FnScope ["cards", "good", "order"] ["cards"] (defScope s_check_gilbreath) := ⟨rfl, rfl, rfl, by decide +kernel, rfl, by decide +kernel, by decide +kernel⟩
theorem sc__law_cell : FnScope ["script", "k"] ["script", "k"] (defScope s__law_cell) := ⟨rfl, rfl, rfl, by decide +kernel, rfl, by decide +kernel, by decide +kernel⟩
theorem sc__law_draw : FnScope ["cell", "limits", "row", "rest", "great", "k", "mixed"] ["cell", "limits"] (defScope s__law_draw) := ⟨rfl, rfl, rfl, by decide +kernel, rfl, by decide +kernel, by decide +kernel⟩
theorem sc__law_of_size : FnScope ["cell", "size", "left", "order", "pick", "k"] ["cell", "size"] (defScope s__law_of_size) := ⟨rfl, rfl, rfl, by decide +kernel, rfl, by decide +kernel, by decide +kernel⟩
theorem sc__law_told : FnScope ["way", "a", "b", "e"] ["way", "a", "b"] (defScope s__law_told) := ⟨rfl, rfl, rfl, by decide +kernel, rfl, by decide +kernel, by decide +kernel⟩
theorem sc__law_laid : FnScope ["upper", "lower", "rows", "size", "turn", "longer", "row", "taken", "rest", "card"] ["upper", "lower"] (defScope s__law_laid) := ⟨rfl, rfl, rfl, by decide +kernel, rfl, by decide +kernel, by decide +kernel⟩
theorem sc__law_all : FnScope ["size", "turned", "found", "k", "upper", "row", "card"] ["size", "turned"] (defScope s__law_all) := ⟨rfl, rfl, rfl, by decide +kernel, rfl, by decide +kernel, by decide +kernel⟩
theorem sc__law_needed : FnScope ["order", "rising_of_v", "need", "power", "turn", "card"] ["order"] (defScope s__law_needed) := ⟨rfl, rfl, rfl, by decide +kernel, rfl, by decide +kernel, by decide +kernel⟩
theorem sc_law : FnScope ["script", "size", "riffled", "dealt", "order", "told", "rank", "cut_at", "n", "m", "wide", "whole", "turn", "spot", "great", "k", "card"] ["script"] (defScope s_law) := ⟨rfl, rfl, rfl, by decide +kernel, rfl, by decide +kernel, by decide +kernel⟩
abbrev i_OutOfRange : Stmt := inClass (topS 2) 0
theorem si_OutOfRange : SupScope ["self", "value"] ["self", "value"] "self" (defScope i_OutOfRange) := ⟨rfl, rfl, rfl, by decide +kernel, rfl, by decide +kernel, by decide +kernel, free_of (by decide +kernel), rfl, rfl, rfl⟩
abbrev i_NotOrder : Stmt := inClass (topS 3) 0
theorem si_NotOrder : SupScope ["self"] ["self"] "self" (defScope i_NotOrder) := ⟨rfl, rfl, rfl, by decide +kernel, rfl, by decide +kernel, by decide +kernel, free_of (by decide +kernel), rfl, rfl, rfl⟩
structure TX (K : PySem.W.Frag) (mg : Str → Option Value) (P : Program) (w : World) where
  a_check_between : Addr
  fd_check_between : FuncData
  F_check_between : Fun K "check_between" "check_between" s_check_between a_check_between fd_check_between
  m_check_between : mg "check_between" = some (.ref a_check_between)
  b_check_between : Binds K fd_check_between ["value", "least", "most"] []
  a_is_order : Addr
  fd_is_order : FuncData
  F_is_order : Fun K "is_order" "is_order" s_is_order a_is_order fd_is_order
  m_is_order : mg "is_order" = some (.ref a_is_order)
  b_is_order : Binds K fd_is_order ["order"] []
  a_check_order : Addr
  fd_check_order : FuncData
  F_check_order : Fun K "check_order" "check_order" s_check_order a_check_order fd_check_order
  m_check_order : mg "check_order" = some (.ref a_check_order)
  b_check_order : Binds K fd_check_order ["order"] []
  a_backward : Addr
  fd_backward : FuncData
  F_backward : Fun K "backward" "backward" s_backward a_backward fd_backward
  m_backward : mg "backward" = some (.ref a_backward)
  b_backward : Binds K fd_backward ["order"] []
  a_rising_of : Addr
  fd_rising_of : FuncData
  F_rising_of : Fun K "rising_of" "rising_of" s_rising_of a_rising_of fd_rising_of
  m_rising_of : mg "rising_of" = some (.ref a_rising_of)
  b_rising_of : Binds K fd_rising_of ["order"] []
  a_factorial : Addr
  fd_factorial : FuncData
  F_factorial : Fun K "factorial" "factorial" s_factorial a_factorial fd_factorial
  m_factorial : mg "factorial" = some (.ref a_factorial)
  b_factorial : Binds K fd_factorial ["n"] []
  a_order_at : Addr
  fd_order_at : FuncData
  F_order_at : Fun K "order_at" "order_at" s_order_at a_order_at fd_order_at
  m_order_at : mg "order_at" = some (.ref a_order_at)
  b_order_at : Binds K fd_order_at ["cards", "n"] []
  a_combinations : Addr
  fd_combinations : FuncData
  F_combinations : Fun K "combinations" "combinations" s_combinations a_combinations fd_combinations
  m_combinations : mg "combinations" = some (.ref a_combinations)
  b_combinations : Binds K fd_combinations ["n", "k"] []
  a_power_of_two : Addr
  fd_power_of_two : FuncData
  F_power_of_two : Fun K "power_of_two" "power_of_two" s_power_of_two a_power_of_two fd_power_of_two
  m_power_of_two : mg "power_of_two" = some (.ref a_power_of_two)
  b_power_of_two : Binds K fd_power_of_two ["n"] []
  a_is_riffle : Addr
  fd_is_riffle : FuncData
  F_is_riffle : Fun K "is_riffle" "is_riffle" s_is_riffle a_is_riffle fd_is_riffle
  m_is_riffle : mg "is_riffle" = some (.ref a_is_riffle)
  b_is_riffle : Binds K fd_is_riffle ["order"] []
  a_riffles_needed : Addr
  fd_riffles_needed : FuncData
  F_riffles_needed : Fun K "riffles_needed" "riffles_needed" s_riffles_needed a_riffles_needed fd_riffles_needed
  m_riffles_needed : mg "riffles_needed" = some (.ref a_riffles_needed)
  b_riffles_needed : Binds K fd_riffles_needed ["order"] []
  a_riffles_of : Addr
  fd_riffles_of : FuncData
  F_riffles_of : Fun K "riffles_of" "riffles_of" s_riffles_of a_riffles_of fd_riffles_of
  m_riffles_of : mg "riffles_of" = some (.ref a_riffles_of)
  b_riffles_of : Binds K fd_riffles_of ["n"] []
  a_count_riffles : Addr
  fd_count_riffles : FuncData
  F_count_riffles : Fun K "count_riffles" "count_riffles" s_count_riffles a_count_riffles fd_count_riffles
  m_count_riffles : mg "count_riffles" = some (.ref a_count_riffles)
  b_count_riffles : Binds K fd_count_riffles ["cards"] []
  a_merged_at : Addr
  fd_merged_at : FuncData
  F_merged_at : Fun K "merged_at" "merged_at" s_merged_at a_merged_at fd_merged_at
  m_merged_at : mg "merged_at" = some (.ref a_merged_at)
  b_merged_at : Binds K fd_merged_at ["upper", "lower", "n"] []
  a_nth_riffle : Addr
  fd_nth_riffle : FuncData
  F_nth_riffle : Fun K "nth_riffle" "nth_riffle" s_nth_riffle a_nth_riffle fd_nth_riffle
  m_nth_riffle : mg "nth_riffle" = some (.ref a_nth_riffle)
  b_nth_riffle : Binds K fd_nth_riffle ["cards", "n"] []
  a_is_spread : Addr
  fd_is_spread : FuncData
  F_is_spread : Fun K "is_spread" "is_spread" s_is_spread a_is_spread fd_is_spread
  m_is_spread : mg "is_spread" = some (.ref a_is_spread)
  b_is_spread : Binds K fd_is_spread ["order"] []
  a_is_gilbreath : Addr
  fd_is_gilbreath : FuncData
  F_is_gilbreath : Fun K "is_gilbreath" "is_gilbreath" s_is_gilbreath a_is_gilbreath fd_is_gilbreath
  m_is_gilbreath : mg "is_gilbreath" = some (.ref a_is_gilbreath)
  b_is_gilbreath : Binds K fd_is_gilbreath ["order"] []
  a_gilbreaths_of : Addr
  fd_gilbreaths_of : FuncData
  F_gilbreaths_of : Fun K "gilbreaths_of" "gilbreaths_of" s_gilbreaths_of a_gilbreaths_of fd_gilbreaths_of
  m_gilbreaths_of : mg "gilbreaths_of" = some (.ref a_gilbreaths_of)
  b_gilbreaths_of : Binds K fd_gilbreaths_of ["n"] []
  a_count_gilbreath : Addr
  fd_count_gilbreath : FuncData
  F_count_gilbreath : Fun K "count_gilbreath" "count_gilbreath" s_count_gilbreath a_count_gilbreath fd_count_gilbreath
  m_count_gilbreath : mg "count_gilbreath" = some (.ref a_count_gilbreath)
  b_count_gilbreath : Binds K fd_count_gilbreath ["cards"] []
  a_nth_gilbreath : Addr
  fd_nth_gilbreath : FuncData
  F_nth_gilbreath : Fun K "nth_gilbreath" "nth_gilbreath" s_nth_gilbreath a_nth_gilbreath fd_nth_gilbreath
  m_nth_gilbreath : mg "nth_gilbreath" = some (.ref a_nth_gilbreath)
  b_nth_gilbreath : Binds K fd_nth_gilbreath ["cards", "n"] []
  a_rank_gilbreath : Addr
  fd_rank_gilbreath : FuncData
  F_rank_gilbreath : Fun K "rank_gilbreath" "rank_gilbreath" s_rank_gilbreath a_rank_gilbreath fd_rank_gilbreath
  m_rank_gilbreath : mg "rank_gilbreath" = some (.ref a_rank_gilbreath)
  b_rank_gilbreath : Binds K fd_rank_gilbreath ["order"] []
  a_gilbreath_cut : Addr
  fd_gilbreath_cut : FuncData
  F_gilbreath_cut : Fun K "gilbreath_cut" "gilbreath_cut" s_gilbreath_cut a_gilbreath_cut fd_gilbreath_cut
  m_gilbreath_cut : mg "gilbreath_cut" = some (.ref a_gilbreath_cut)
  b_gilbreath_cut : Binds K fd_gilbreath_cut ["order"] []
  a_lists_of : Addr
  fd_lists_of : FuncData
  F_lists_of : Fun K "lists_of" "lists_of" s_lists_of a_lists_of fd_lists_of
  m_lists_of : mg "lists_of" = some (.ref a_lists_of)
  b_lists_of : Binds K fd_lists_of ["size", "count"] []
  a_laid : Addr
  fd_laid : FuncData
  F_laid : Fun K "laid" "laid" s_laid a_laid fd_laid
  m_laid : mg "laid" = some (.ref a_laid)
  b_laid : Binds K fd_laid ["upper", "lower", "places"] []
  a_made_orders : Addr
  fd_made_orders : FuncData
  F_made_orders : Fun K "made_orders" "made_orders" s_made_orders a_made_orders fd_made_orders
  m_made_orders : mg "made_orders" = some (.ref a_made_orders)
  b_made_orders : Binds K fd_made_orders ["n", "way"] []
  a_all_orders : Addr
  fd_all_orders : FuncData
  F_all_orders : Fun K "all_orders" "all_orders" s_all_orders a_all_orders fd_all_orders
  m_all_orders : mg "all_orders" = some (.ref a_all_orders)
  b_all_orders : Binds K fd_all_orders ["n"] []
  a_check_gilbreath : Addr
  fd_check_gilbreath : FuncData
  F_check_gilbreath : Fun K "check_gilbreath" "check_gilbreath" s_check_gilbreath a_check_gilbreath fd_check_gilbreath
  m_check_gilbreath : mg "check_gilbreath" = some (.ref a_check_gilbreath)
  b_check_gilbreath : Binds K fd_check_gilbreath ["cards"] []
  a__law_cell : Addr
  fd__law_cell : FuncData
  F__law_cell : Fun K "_law_cell" "_law_cell" s__law_cell a__law_cell fd__law_cell
  m__law_cell : mg "_law_cell" = some (.ref a__law_cell)
  b__law_cell : Binds K fd__law_cell ["script", "k"] []
  a__law_draw : Addr
  fd__law_draw : FuncData
  F__law_draw : Fun K "_law_draw" "_law_draw" s__law_draw a__law_draw fd__law_draw
  m__law_draw : mg "_law_draw" = some (.ref a__law_draw)
  b__law_draw : Binds K fd__law_draw ["cell", "limits"] []
  a__law_of_size : Addr
  fd__law_of_size : FuncData
  F__law_of_size : Fun K "_law_of_size" "_law_of_size" s__law_of_size a__law_of_size fd__law_of_size
  m__law_of_size : mg "_law_of_size" = some (.ref a__law_of_size)
  b__law_of_size : Binds K fd__law_of_size ["cell", "size"] []
  a__law_told : Addr
  fd__law_told : FuncData
  F__law_told : Fun K "_law_told" "_law_told" s__law_told a__law_told fd__law_told
  m__law_told : mg "_law_told" = some (.ref a__law_told)
  b__law_told : Binds K fd__law_told ["way", "a", "b"] []
  a__law_laid : Addr
  fd__law_laid : FuncData
  F__law_laid : Fun K "_law_laid" "_law_laid" s__law_laid a__law_laid fd__law_laid
  m__law_laid : mg "_law_laid" = some (.ref a__law_laid)
  b__law_laid : Binds K fd__law_laid ["upper", "lower"] []
  a__law_all : Addr
  fd__law_all : FuncData
  F__law_all : Fun K "_law_all" "_law_all" s__law_all a__law_all fd__law_all
  m__law_all : mg "_law_all" = some (.ref a__law_all)
  b__law_all : Binds K fd__law_all ["size", "turned"] []
  a__law_needed : Addr
  fd__law_needed : FuncData
  F__law_needed : Fun K "_law_needed" "_law_needed" s__law_needed a__law_needed fd__law_needed
  m__law_needed : mg "_law_needed" = some (.ref a__law_needed)
  b__law_needed : Binds K fd__law_needed ["order"] []
  a_law : Addr
  fd_law : FuncData
  F_law : Fun K "law" "law" s_law a_law fd_law
  m_law : mg "law" = some (.ref a_law)
  b_law : Binds K fd_law ["script"] []
  C_OutOfRange : Addr
  I_OutOfRange : Addr
  id_OutOfRange : FuncData
  x_OutOfRange : ErrTx K mg P "OutOfRange" ["self", "value"] ["value"] C_OutOfRange I_OutOfRange id_OutOfRange
  C_NotOrder : Addr
  I_NotOrder : Addr
  id_NotOrder : FuncData
  x_NotOrder : ErrTx K mg P "NotOrder" ["self"] [] C_NotOrder I_NotOrder id_NotOrder
  C_TrickError : Addr
  g_TrickError : mg "TrickError" = some (.ref C_TrickError)
  e_TrickError : ExmAll K mg "TrickError" (.ref C_TrickError) errs_k11
  g_OutOfRange : mg "OutOfRange" = some (.ref C_OutOfRange)
  e_OutOfRange : ExmAll K mg "OutOfRange" (.ref C_OutOfRange) errs_k11
  g_NotOrder : mg "NotOrder" = some (.ref C_NotOrder)
  e_NotOrder : ExmAll K mg "NotOrder" (.ref C_NotOrder) errs_k11
  n_abs : mg "abs" = none
  n_bool : mg "bool" = none
  n_int : mg "int" = none
  n_isinstance : mg "isinstance" = none
  n_len : mg "len" = none
  n_list : mg "list" = none
  n_min : mg "min" = none
  n_range : mg "range" = none
  n_sorted : mg "sorted" = none
  n_sum : mg "sum" = none
  n_tuple : mg "tuple" = none
  k_MOST_CARDS : ∃ u, mg "MOST_CARDS" = some u ∧ RelV (.int 200) u
  k_MOST_SPREAD : ∃ u, mg "MOST_SPREAD" = some u ∧ RelV (.int 7) u
section
variable {P : Program} {w : World} {K : PySem.W.Frag} {mg : Str → Option Value} {base : Heap}
theorem ok_check_between (T : TX K mg P w) : FnOk P w K mg base (L2.CX P w) 3 T.a_check_between T.fd_check_between ["value", "least", "most"] (spD K mg 3 F_check_between) :=
  ok_of (owN := [0, 0, 0]) T.F_check_between sc_check_between fun cdv A outer s H B E hr => by
    have sc := sc_check_between
    have tk := takes_of (X := cxOf (L2.CX P w) P w K mg base ["value", "least", "most"] "check_between" (defScope s_check_between) T.a_check_between cdv A outer s H E) rfl rfl rfl rfl
    have po := passes_of (X := cxOf (L2.CX P w) P w K mg base ["value", "least", "most"] "check_between" (defScope s_check_between) T.a_check_between cdv A outer s H E) rfl
    exact (s_one (s_if (PW.pt (t_or (t_lt (f_var 0) (f_var 1)) (t_or1 (t_gt (f_var 0) (f_var 2))))) (s_one (s_raise (CX := L2.CX P w) T.x_OutOfRange.oex T.x_OutOfRange.iC T.x_OutOfRange.tI (T.x_OutOfRange.ok _ _) (hr.mono (by decide)) T.x_OutOfRange.b tk T.x_OutOfRange.m (a_cons (d_var 0) a_nil))) s_nil))
theorem ok_is_order (T : TX K mg P w) : FnOk P w K mg base (L2.CX P w) 1 T.a_is_order T.fd_is_order ["order"] (spD K mg 1 F_is_order) :=
  ok_of (owN := [0]) T.F_is_order sc_is_order fun cdv A outer s H B E hr => by
    have sc := sc_is_order
    have tk := takes_of (X := cxOf (L2.CX P w) P w K mg base ["order"] "is_order" (defScope s_is_order) T.a_is_order cdv A outer s H E) rfl rfl rfl rfl
    have po := passes_of (X := cxOf (L2.CX P w) P w K mg base ["order"] "is_order" (defScope s_is_order) T.a_is_order cdv A outer s H E) rfl
    exact (s_one (s_ret (d_eq hr (w1 (e_of_n (n_sorted T.n_sorted (a_cons (f_var 0) a_nil)))) (w1 (e_of_n (n_listrg1 T.n_list T.n_range (w1 (d_len T.n_len (a_cons (f_var 0) a_nil)))))))))
theorem ok_check_order (T : TX K mg P w) : FnOk P w K mg base (L2.CX P w) 3 T.a_check_order T.fd_check_order ["order"] (spD K mg 1 F_check_order) :=
  ok_of (owN := [0]) T.F_check_order sc_check_order fun cdv A outer s H B E hr => by
    have sc := sc_check_order
    have tk := takes_of (X := cxOf (L2.CX P w) P w K mg base ["order"] "check_order" (defScope s_check_order) T.a_check_order cdv A outer s H E) rfl rfl rfl rfl
    have po := passes_of (X := cxOf (L2.CX P w) P w K mg base ["order"] "check_order" (defScope s_check_order) T.a_check_order cdv A outer s H E) rfl
    exact (s_one (s_if (t_not (t_truth (w1 (d_call (ok_is_order T) (hr.mono (by decide)) T.m_is_order T.F_is_order.kp T.b_is_order tk (a_cons (d_var 0) a_nil))))) (s_one (s_raise0 (CX := L2.CX P w) T.x_NotOrder.oex T.x_NotOrder.iC T.x_NotOrder.tI (T.x_NotOrder.ok _ _) (hr.mono (by decide)) T.x_NotOrder.b tk T.x_NotOrder.m)) s_nil))
theorem ok_backward (T : TX K mg P w) : FnOk P w K mg base (L2.CX P w) 1 T.a_backward T.fd_backward ["order"] (spD K mg 1 F_backward) :=
  ok_of (owN := [0, 0, 0]) T.F_backward sc_backward fun cdv A outer s H B E hr => by
    have sc := sc_backward
    have tk := takes_of (X := cxOf (L2.CX P w) P w K mg base ["order", "found", "place"] "backward" (defScope s_backward) T.a_backward cdv A outer s H E) rfl rfl rfl rfl
    have po := passes_of (X := cxOf (L2.CX P w) P w K mg base ["order", "found", "place"] "backward" (defScope s_backward) T.a_backward cdv A outer s H E) rfl
    exact (s_cons (s_new (ow' := [0, 1, 0]) 1 (n_rep (n_lst (a_cons d_int a_nil)) (w1 (d_len T.n_len (a_cons (f_var 0) a_nil)))) sc.nd) (s_cons (s_for (vs := [2]) po (i_rg1 (a_cons (w1 (d_len T.n_len (a_cons (f_var 0) a_nil))) a_nil) (hm := T.n_range)) (g_name 2 sc.nd) (s_one (s_put 1 (d_var 2) (w1 (d_ix (f_var 0) (f_var 2)))))) (s_one (s_frz 1 (s_ret (d_var 1))))))
theorem ok_rising_of (T : TX K mg P w) : FnOk P w K mg base (L2.CX P w) 2 T.a_rising_of T.fd_rising_of ["order"] (spD K mg 1 F_rising_of) :=
  ok_of (owN := [0, 0, 0, 0]) T.F_rising_of sc_rising_of fun cdv A outer s H B E hr => by
    have sc := sc_rising_of
    have tk := takes_of (X := cxOf (L2.CX P w) P w K mg base ["order", "goes", "found", "card"] "rising_of" (defScope s_rising_of) T.a_rising_of cdv A outer s H E) rfl rfl rfl rfl
    have po := passes_of (X := cxOf (L2.CX P w) P w K mg base ["order", "goes", "found", "card"] "rising_of" (defScope s_rising_of) T.a_rising_of cdv A outer s H E) rfl
    exact (s_cons (s_set (ow' := [0, 0, 0, 0]) 1 (d_call (ok_backward T) (hr.mono (by decide)) T.m_backward T.F_backward.kp T.b_backward tk (a_cons (d_var 0) a_nil)) sc.nd) (s_cons (s_new2 (ow' := [0, 0, 2, 0]) 2 sc.nd) (s_cons (s_for (vs := [3]) po (i_rg1 (a_cons (w1 (d_len T.n_len (a_cons (f_var 0) a_nil))) a_nil) (hm := T.n_range)) (g_name 3 sc.nd) (s_one (s_if (PW.pt (t_and (t_gt (f_var 3) (w1 d_int)) (t_and1 (t_gt (w1 (d_ix (f_var 1) (f_var 3))) (w1 (d_ix (f_var 1) (w1 (d_sub (f_var 3) (w1 d_int))))))))) (s_one (s_app_in 2 (w1 (d_neg (w1 d_int))) (d_var 3))) (s_one (s_append2 2 (n_lst (a_cons (d_var 3) a_nil))))))) (s_one (s_frz 2 (s_ret (d_var 2)))))))
theorem ok_factorial (T : TX K mg P w) : FnOk P w K mg base (L2.CX P w) 1 T.a_factorial T.fd_factorial ["n"] (spD K mg 1 F_factorial) :=
  ok_of (owN := [0, 0, 0]) T.F_factorial sc_factorial fun cdv A outer s H B E hr => by
    have sc := sc_factorial
    have tk := takes_of (X := cxOf (L2.CX P w) P w K mg base ["n", "product", "number"] "factorial" (defScope s_factorial) T.a_factorial cdv A outer s H E) rfl rfl rfl rfl
    have po := passes_of (X := cxOf (L2.CX P w) P w K mg base ["n", "product", "number"] "factorial" (defScope s_factorial) T.a_factorial cdv A outer s H E) rfl
    exact (s_cons (s_set (ow' := [0, 0, 0]) 1 d_int sc.nd) (s_cons (s_for (vs := [2]) po (i_rg2 (a_cons (w1 d_int) (a_cons (w1 (d_add (f_var 0) (w1 d_int))) a_nil)) (hm := T.n_range)) (g_name 2 sc.nd) (s_one (s_aug (ow' := [0, 0, 0]) 1 hr_mulA iop_mul (f_var 2) sc.nd))) (s_one (s_ret (d_var 1)))))
theorem ok_order_at (T : TX K mg P w) : FnOk P w K mg base (L2.CX P w) 1 T.a_order_at T.fd_order_at ["cards", "n"] (spD K mg 2 F_order_at) :=
  ok_of (owN := [0, 0, 1, 0, 0, 0, 0]) T.F_order_at sc_order_at fun cdv A outer s H B E hr => by
    have sc := sc_order_at
    have tk := takes_of (X := cxOf (L2.CX P w) P w K mg base ["cards", "n", "digits", "size", "left", "found", "digit"] "order_at" (defScope s_order_at) T.a_order_at cdv A outer s H E) rfl rfl rfl rfl
    have po := passes_of (X := cxOf (L2.CX P w) P w K mg base ["cards", "n", "digits", "size", "left", "found", "digit"] "order_at" (defScope s_order_at) T.a_order_at cdv A outer s H E) rfl
    exact (s_cons (s_new (ow' := [0, 0, 1, 0, 0, 0, 0]) 2 (n_lst a_nil) sc.nd) (s_cons (s_for (vs := [3]) po (i_rg2 (a_cons (w1 d_int) (a_cons (w1 (d_add (w1 (d_len T.n_len (a_cons (f_var 0) a_nil))) (w1 d_int))) a_nil)) (hm := T.n_range)) (g_name 3 sc.nd) (s_cons (s_append 2 (d_mod (f_var 1) (f_var 3))) (s_one (s_set (ow' := [0, 0, 1, 0, 0, 0, 0]) 1 (d_fdivW (f_var 1) (f_var 3)) sc.nd)))) (s_cons (s_set (ow' := [0, 0, 1, 0, 0, 0, 0]) 4 (e_of_n (n_list T.n_list (a_cons (f_var 0) a_nil))) sc.nd) (s_cons (s_new (ow' := [0, 0, 1, 0, 0, 1, 0]) 5 (n_lst a_nil) sc.nd) (s_cons (s_for (vs := [6]) po (i_list (e_of_n (n_rev (f_var 2)))) (g_name 6 sc.nd) (s_cons (s_append 5 (d_ix (f_var 4) (f_var 6))) (s_one (s_set (ow' := [0, 0, 1, 0, 0, 1, 0]) 4 (d_add (w1 (d_cut (f_var 4) o_none (o_some (f_var 6)))) (w1 (d_cut (f_var 4) (o_some (w1 (d_add (f_var 6) (w1 d_int)))) o_none))) sc.nd)))) (s_one (s_frz 5 (s_ret (d_var 5)))))))))
theorem ok_combinations (T : TX K mg P w) : FnOk P w K mg base (L2.CX P w) 1 T.a_combinations T.fd_combinations ["n", "k"] (spD K mg 2 F_combinations) :=
  ok_of (owN := [0, 0, 0, 0]) T.F_combinations sc_combinations fun cdv A outer s H B E hr => by
    have sc := sc_combinations
    have tk := takes_of (X := cxOf (L2.CX P w) P w K mg base ["n", "k", "count", "at"] "combinations" (defScope s_combinations) T.a_combinations cdv A outer s H E) rfl rfl rfl rfl
    have po := passes_of (X := cxOf (L2.CX P w) P w K mg base ["n", "k", "count", "at"] "combinations" (defScope s_combinations) T.a_combinations cdv A outer s H E) rfl
    exact (s_cons (s_if (PW.pt (t_or (t_lt (f_var 1) (w1 d_int)) (t_or1 (t_gt (f_var 1) (f_var 0))))) (s_one (s_ret d_int)) s_nil) (s_cons (s_set (ow' := [0, 0, 0, 0]) 2 d_int sc.nd) (s_cons (s_for (vs := [3]) po (i_rg1 (a_cons (w1 (d_min T.n_min (a_cons (f_var 1) (a_cons (w1 (d_sub (f_var 0) (f_var 1))) a_nil)))) a_nil) (hm := T.n_range)) (g_name 3 sc.nd) (s_one (s_set (ow' := [0, 0, 0, 0]) 2 (d_fdivW (w1 (d_mul (f_var 2) (w1 (d_sub (f_var 0) (f_var 3))))) (w1 (d_add (f_var 3) (w1 d_int)))) sc.nd))) (s_one (s_ret (d_var 2))))))
theorem ok_power_of_two (T : TX K mg P w) : FnOk P w K mg base (L2.CX P w) 1 T.a_power_of_two T.fd_power_of_two ["n"] (spD K mg 1 F_power_of_two) :=
  ok_of (owN := [0]) T.F_power_of_two sc_power_of_two fun cdv A outer s H B E hr => by
    have sc := sc_power_of_two
    have tk := takes_of (X := cxOf (L2.CX P w) P w K mg base ["n"] "power_of_two" (defScope s_power_of_two) T.a_power_of_two cdv A outer s H E) rfl rfl rfl rfl
    have po := passes_of (X := cxOf (L2.CX P w) P w K mg base ["n"] "power_of_two" (defScope s_power_of_two) T.a_power_of_two cdv A outer s H E) rfl
    exact (s_one (s_ret (d_shl (w1 d_int) (f_var 0))))
theorem ok_is_riffle (T : TX K mg P w) : FnOk P w K mg base (L2.CX P w) 4 T.a_is_riffle T.fd_is_riffle ["order"] (spD K mg 1 F_is_riffle) :=
  ok_of (owN := [0]) T.F_is_riffle sc_is_riffle fun cdv A outer s H B E hr => by
    have sc := sc_is_riffle
    have tk := takes_of (X := cxOf (L2.CX P w) P w K mg base ["order"] "is_riffle" (defScope s_is_riffle) T.a_is_riffle cdv A outer s H E) rfl rfl rfl rfl
    have po := passes_of (X := cxOf (L2.CX P w) P w K mg base ["order"] "is_riffle" (defScope s_is_riffle) T.a_is_riffle cdv A outer s H E) rfl
    exact (s_cons (s_expr (w1 (d_call (ok_check_order T) (hr.mono (by decide)) T.m_check_order T.F_check_order.kp T.b_check_order tk (a_cons (d_var 0) a_nil)))) (s_one (s_ret (d_le (w1 (d_len T.n_len (a_cons (w1 (d_call (ok_rising_of T) (hr.mono (by decide)) T.m_rising_of T.F_rising_of.kp T.b_rising_of tk (a_cons (d_var 0) a_nil))) a_nil))) (w1 d_int)))))
theorem ok_riffles_needed (T : TX K mg P w) : FnOk P w K mg base (L2.CX P w) 4 T.a_riffles_needed T.fd_riffles_needed ["order"] (spD K mg 1 F_riffles_needed) :=
  ok_of (owN := [0, 0]) T.F_riffles_needed sc_riffles_needed fun cdv A outer s H B E hr => by
    have sc := sc_riffles_needed
    have tk := takes_of (X := cxOf (L2.CX P w) P w K mg base ["order", "count"] "riffles_needed" (defScope s_riffles_needed) T.a_riffles_needed cdv A outer s H E) rfl rfl rfl rfl
    have po := passes_of (X := cxOf (L2.CX P w) P w K mg base ["order", "count"] "riffles_needed" (defScope s_riffles_needed) T.a_riffles_needed cdv A outer s H E) rfl
    exact (s_cons (s_expr (w1 (d_call (ok_check_order T) (hr.mono (by decide)) T.m_check_order T.F_check_order.kp T.b_check_order tk (a_cons (d_var 0) a_nil)))) (s_cons (s_set (ow' := [0, 0]) 1 d_int sc.nd) (s_cons (s_while po (t_lt (w1 (d_call (ok_power_of_two T) (hr.mono (by decide)) T.m_power_of_two T.F_power_of_two.kp T.b_power_of_two tk (a_cons (d_var 1) a_nil))) (w1 (d_len T.n_len (a_cons (w1 (d_call (ok_rising_of T) (hr.mono (by decide)) T.m_rising_of T.F_rising_of.kp T.b_rising_of tk (a_cons (d_var 0) a_nil))) a_nil)))) (s_one (s_aug (ow' := [0, 0]) 1 hr_addA iop_addA (w1 d_int) sc.nd))) (s_one (s_ret (d_var 1))))))
theorem ok_riffles_of (T : TX K mg P w) : FnOk P w K mg base (L2.CX P w) 2 T.a_riffles_of T.fd_riffles_of ["n"] (spD K mg 1 F_riffles_of) :=
  ok_of (owN := [0]) T.F_riffles_of sc_riffles_of fun cdv A outer s H B E hr => by
    have sc := sc_riffles_of
    have tk := takes_of (X := cxOf (L2.CX P w) P w K mg base ["n"] "riffles_of" (defScope s_riffles_of) T.a_riffles_of cdv A outer s H E) rfl rfl rfl rfl
    have po := passes_of (X := cxOf (L2.CX P w) P w K mg base ["n"] "riffles_of" (defScope s_riffles_of) T.a_riffles_of cdv A outer s H E) rfl
    exact (s_one (s_ret (d_if (t_gt (f_var 0) (w1 d_int)) (d_sub (w1 (d_call (ok_power_of_two T) (hr.mono (by decide)) T.m_power_of_two T.F_power_of_two.kp T.b_power_of_two tk (a_cons (d_var 0) a_nil))) (f_var 0)) d_int)))
theorem ok_count_riffles (T : TX K mg P w) : FnOk P w K mg base (L2.CX P w) 4 T.a_count_riffles T.fd_count_riffles ["cards"] (spD K mg 1 F_count_riffles) :=
  ok_of (owN := [0]) T.F_count_riffles sc_count_riffles fun cdv A outer s H B E hr => by
    have sc := sc_count_riffles
    have tk := takes_of (X := cxOf (L2.CX P w) P w K mg base ["cards"] "count_riffles" (defScope s_count_riffles) T.a_count_riffles cdv A outer s H E) rfl rfl rfl rfl
    have po := passes_of (X := cxOf (L2.CX P w) P w K mg base ["cards"] "count_riffles" (defScope s_count_riffles) T.a_count_riffles cdv A outer s H E) rfl
    exact (s_cons (s_expr (w1 (d_call (ok_check_between T) (hr.mono (by decide)) T.m_check_between T.F_check_between.kp T.b_check_between tk (a_cons (d_var 0) (a_cons d_int (a_cons (d_gint T.k_MOST_CARDS) a_nil)))))) (s_one (s_ret (d_call (ok_riffles_of T) (hr.mono (by decide)) T.m_riffles_of T.F_riffles_of.kp T.b_riffles_of tk (a_cons (d_var 0) a_nil)))))
theorem ok_merged_at (T : TX K mg P w) : FnOk P w K mg base (L2.CX P w) 2 T.a_merged_at T.fd_merged_at ["upper", "lower", "n"] (spD K mg 3 F_merged_at) :=
  ok_of (owN := [0, 0, 0, 1, 0, 0, 0]) T.F_merged_at sc_merged_at fun cdv A outer s H B E hr => by
    have sc := sc_merged_at
    have tk := takes_of (X := cxOf (L2.CX P w) P w K mg base ["upper", "lower", "n", "found", "one", "other", "count"] "merged_at" (defScope s_merged_at) T.a_merged_at cdv A outer s H E) rfl rfl rfl rfl
    have po := passes_of (X := cxOf (L2.CX P w) P w K mg base ["upper", "lower", "n", "found", "one", "other", "count"] "merged_at" (defScope s_merged_at) T.a_merged_at cdv A outer s H E) rfl
    exact (s_cons (s_new (ow' := [0, 0, 0, 1, 0, 0, 0]) 3 (n_lst a_nil) sc.nd) (s_cons (s_unp (vs := [4, 5]) (d_tup (a_cons d_int (a_cons d_int a_nil))) (g_tup (gs_cons (g_name 4 sc.nd) (gs_cons (g_name 5 sc.nd) gs_nil)))) (s_cons (s_while po (PW.pt (t_and (t_lt (f_var 4) (w1 (d_len T.n_len (a_cons (f_var 0) a_nil)))) (t_and1 (t_lt (f_var 5) (w1 (d_len T.n_len (a_cons (f_var 1) a_nil))))))) (s_cons (s_set (ow' := [0, 0, 0, 1, 0, 0, 0]) 6 (d_call (ok_combinations T) (hr.mono (by decide)) T.m_combinations T.F_combinations.kp T.b_combinations tk (a_cons (d_sub (w1 (d_add (w1 (d_sub (w1 (d_sub (w1 (d_len T.n_len (a_cons (f_var 0) a_nil))) (f_var 4))) (w1 d_int))) (w1 (d_len T.n_len (a_cons (f_var 1) a_nil))))) (f_var 5)) (a_cons (d_sub (w1 (d_len T.n_len (a_cons (f_var 1) a_nil))) (f_var 5)) a_nil))) sc.nd) (s_one (s_if (t_lt (f_var 2) (f_var 6)) (s_cons (s_append 3 (d_ix (f_var 0) (f_var 4))) (s_one (s_aug (ow' := [0, 0, 0, 1, 0, 0, 0]) 4 hr_addA iop_addA (w1 d_int) sc.nd))) (s_cons (s_aug (ow' := [0, 0, 0, 1, 0, 0, 0]) 2 hr_subA iop_sub (f_var 6) sc.nd) (s_cons (s_append 3 (d_ix (f_var 1) (f_var 5))) (s_one (s_aug (ow' := [0, 0, 0, 1, 0, 0, 0]) 5 hr_addA iop_addA (w1 d_int) sc.nd)))))))) (s_one (s_ret (d_add (w1 (d_add (f_var 3) (w1 (d_cut (f_var 0) (o_some (f_var 4)) o_none)))) (w1 (d_cut (f_var 1) (o_some (f_var 5)) o_none))))))))
theorem ok_nth_riffle (T : TX K mg P w) : FnOk P w K mg base (L2.CX P w) 4 T.a_nth_riffle T.fd_nth_riffle ["cards", "n"] (spD K mg 2 F_nth_riffle) :=
  ok_of (owN := [0, 0, 0, 0, 0, 0]) T.F_nth_riffle sc_nth_riffle fun cdv A outer s H B E hr => by
    have sc := sc_nth_riffle
    have tk := takes_of (X := cxOf (L2.CX P w) P w K mg base ["cards", "n", "start", "count", "cut", "rest"] "nth_riffle" (defScope s_nth_riffle) T.a_nth_riffle cdv A outer s H E) rfl rfl rfl rfl
    have po := passes_of (X := cxOf (L2.CX P w) P w K mg base ["cards", "n", "start", "count", "cut", "rest"] "nth_riffle" (defScope s_nth_riffle) T.a_nth_riffle cdv A outer s H E) rfl
    exact (s_cons (s_expr (w1 (d_call (ok_check_between T) (hr.mono (by decide)) T.m_check_between T.F_check_between.kp T.b_check_between tk (a_cons (d_var 0) (a_cons d_int (a_cons (d_gint T.k_MOST_CARDS) a_nil)))))) (s_cons (s_if (PW.pt (t_or (t_lt (f_var 1) (w1 d_int)) (t_or1 (t_ge (f_var 1) (w1 (d_call (ok_riffles_of T) (hr.mono (by decide)) T.m_riffles_of T.F_riffles_of.kp T.b_riffles_of tk (a_cons (d_var 0) a_nil))))))) (s_one (s_raise (CX := L2.CX P w) T.x_OutOfRange.oex T.x_OutOfRange.iC T.x_OutOfRange.tI (T.x_OutOfRange.ok _ _) (hr.mono (by decide)) T.x_OutOfRange.b tk T.x_OutOfRange.m (a_cons (d_var 1) a_nil))) s_nil) (s_cons (s_for (vs := [2]) po (i_rg1 (a_cons (f_var 0) a_nil) (hm := T.n_range)) (g_name 2 sc.nd) (s_cons (s_set (ow' := [0, 0, 0, 0, 0, 0]) 3 (d_call (ok_riffles_of T) (hr.mono (by decide)) T.m_riffles_of T.F_riffles_of.kp T.b_riffles_of tk (a_cons (d_sub (w1 (d_sub (f_var 0) (f_var 2))) (w1 d_int)) a_nil)) sc.nd) (s_one (s_if (t_ge (f_var 1) (f_var 3)) (s_cons (s_aug (ow' := [0, 0, 0, 0, 0, 0]) 1 hr_subA iop_sub (f_var 3) sc.nd) (s_one (s_for (vs := [4]) po (i_rg2 (a_cons (w1 (d_add (f_var 2) (w1 d_int))) (a_cons (f_var 0) a_nil)) (hm := T.n_range)) (g_name 4 sc.nd) (s_cons (s_set (ow' := [0, 0, 0, 0, 0, 0]) 3 (d_call (ok_combinations T) (hr.mono (by decide)) T.m_combinations T.F_combinations.kp T.b_combinations tk (a_cons (d_sub (w1 (d_sub (f_var 0) (w1 d_int))) (f_var 2)) (a_cons (d_sub (f_var 4) (f_var 2)) a_nil))) sc.nd) (s_cons (s_if (t_lt (f_var 1) (f_var 3)) (s_cons (s_set (ow' := [0, 0, 0, 0, 0, 0]) 5 (d_call (ok_merged_at T) (hr.mono (by decide)) T.m_merged_at T.F_merged_at.kp T.b_merged_at tk (a_cons (e_of_n (n_listrg2 T.n_list T.n_range (f_var 2) (f_var 4))) (a_cons (e_of_n (n_listrg2 T.n_list T.n_range (w1 (d_add (f_var 4) (w1 d_int))) (f_var 0))) (a_cons (d_var 1) a_nil)))) sc.nd) (s_one (s_ret (d_add (w1 (d_add (w1 (e_of_n (n_listrg1 T.n_list T.n_range (f_var 2)))) (w1 (e_of_n (n_lst (a_cons (d_var 4) a_nil)))))) (f_var 5))))) s_nil) (s_one (s_aug (ow' := [0, 0, 0, 0, 0, 0]) 1 hr_subA iop_sub (f_var 3) sc.nd))))))) s_nil)))) (s_one (s_ret (e_of_n (n_listrg1 T.n_list T.n_range (f_var 0))))))))
theorem ok_is_spread (T : TX K mg P w) : FnOk P w K mg base (L2.CX P w) 1 T.a_is_spread T.fd_is_spread ["order"] (spD K mg 1 F_is_spread) :=
  ok_of (owN := [0, 0, 0, 0]) T.F_is_spread sc_is_spread fun cdv A outer s H B E hr => by
    have sc := sc_is_spread
    have tk := takes_of (X := cxOf (L2.CX P w) P w K mg base ["order", "card", "low", "high"] "is_spread" (defScope s_is_spread) T.a_is_spread cdv A outer s H E) rfl rfl rfl rfl
    have po := passes_of (X := cxOf (L2.CX P w) P w K mg base ["order", "card", "low", "high"] "is_spread" (defScope s_is_spread) T.a_is_spread cdv A outer s H E) rfl
    exact (s_cons (s_unp (vs := [2, 3]) (d_if (t_gt (w1 (d_len T.n_len (a_cons (f_var 0) a_nil))) (w1 d_int)) (d_tup (a_cons (d_ix (f_var 0) (w1 d_int)) (a_cons (d_ix (f_var 0) (w1 d_int)) a_nil))) (d_tup (a_cons d_int (a_cons d_int a_nil)))) (g_tup (gs_cons (g_name 2 sc.nd) (gs_cons (g_name 3 sc.nd) gs_nil)))) (s_cons (s_for (vs := [1]) po (i_list (d_cut (f_var 0) (o_some (w1 d_int)) o_none)) (g_name 1 sc.nd) (s_one (s_if (t_eq hr (f_var 1) (w1 (d_sub (f_var 2) (w1 d_int)))) (s_one (s_set (ow' := [0, 0, 0, 0]) 2 (d_var 1) sc.nd)) (s_one (s_if (t_eq hr (f_var 1) (w1 (d_add (f_var 3) (w1 d_int)))) (s_one (s_set (ow' := [0, 0, 0, 0]) 3 (d_var 1) sc.nd)) (s_one (s_ret d_bl))))))) (s_one (s_ret d_bl))))
theorem ok_is_gilbreath (T : TX K mg P w) : FnOk P w K mg base (L2.CX P w) 4 T.a_is_gilbreath T.fd_is_gilbreath ["order"] (spD K mg 1 F_is_gilbreath) :=
  ok_of (owN := [0]) T.F_is_gilbreath sc_is_gilbreath fun cdv A outer s H B E hr => by
    have sc := sc_is_gilbreath
    have tk := takes_of (X := cxOf (L2.CX P w) P w K mg base ["order"] "is_gilbreath" (defScope s_is_gilbreath) T.a_is_gilbreath cdv A outer s H E) rfl rfl rfl rfl
    have po := passes_of (X := cxOf (L2.CX P w) P w K mg base ["order"] "is_gilbreath" (defScope s_is_gilbreath) T.a_is_gilbreath cdv A outer s H E) rfl
    exact (s_cons (s_expr (w1 (d_call (ok_check_order T) (hr.mono (by decide)) T.m_check_order T.F_check_order.kp T.b_check_order tk (a_cons (d_var 0) a_nil)))) (s_one (s_ret (d_call (ok_is_spread T) (hr.mono (by decide)) T.m_is_spread T.F_is_spread.kp T.b_is_spread tk (a_cons (d_var 0) a_nil)))))
theorem ok_gilbreaths_of (T : TX K mg P w) : FnOk P w K mg base (L2.CX P w) 2 T.a_gilbreaths_of T.fd_gilbreaths_of ["n"] (spD K mg 1 F_gilbreaths_of) :=
  ok_of (owN := [0]) T.F_gilbreaths_of sc_gilbreaths_of fun cdv A outer s H B E hr => by
    have sc := sc_gilbreaths_of
    have tk := takes_of (X := cxOf (L2.CX P w) P w K mg base ["n"] "gilbreaths_of" (defScope s_gilbreaths_of) T.a_gilbreaths_of cdv A outer s H E) rfl rfl rfl rfl
    have po := passes_of (X := cxOf (L2.CX P w) P w K mg base ["n"] "gilbreaths_of" (defScope s_gilbreaths_of) T.a_gilbreaths_of cdv A outer s H E) rfl
    exact (s_one (s_ret (d_if (t_gt (f_var 0) (w1 d_int)) (d_call (ok_power_of_two T) (hr.mono (by decide)) T.m_power_of_two T.F_power_of_two.kp T.b_power_of_two tk (a_cons (d_sub (f_var 0) (w1 d_int)) a_nil)) d_int)))
theorem ok_count_gilbreath (T : TX K mg P w) : FnOk P w K mg base (L2.CX P w) 4 T.a_count_gilbreath T.fd_count_gilbreath ["cards"] (spD K mg 1 F_count_gilbreath) :=
  ok_of (owN := [0]) T.F_count_gilbreath sc_count_gilbreath fun cdv A outer s H B E hr => by
    have sc := sc_count_gilbreath
    have tk := takes_of (X := cxOf (L2.CX P w) P w K mg base ["cards"] "count_gilbreath" (defScope s_count_gilbreath) T.a_count_gilbreath cdv A outer s H E) rfl rfl rfl rfl
    have po := passes_of (X := cxOf (L2.CX P w) P w K mg base ["cards"] "count_gilbreath" (defScope s_count_gilbreath) T.a_count_gilbreath cdv A outer s H E) rfl
    exact (s_cons (s_expr (w1 (d_call (ok_check_between T) (hr.mono (by decide)) T.m_check_between T.F_check_between.kp T.b_check_between tk (a_cons (d_var 0) (a_cons d_int (a_cons (d_gint T.k_MOST_CARDS) a_nil)))))) (s_one (s_ret (d_call (ok_gilbreaths_of T) (hr.mono (by decide)) T.m_gilbreaths_of T.F_gilbreaths_of.kp T.b_gilbreaths_of tk (a_cons (d_var 0) a_nil)))))
theorem ok_nth_gilbreath (T : TX K mg P w) : FnOk P w K mg base (L2.CX P w) 4 T.a_nth_gilbreath T.fd_nth_gilbreath ["cards", "n"] (spD K mg 2 F_nth_gilbreath) :=
  ok_of (owN := [0, 0, 0]) T.F_nth_gilbreath sc_nth_gilbreath fun cdv A outer s H B E hr => by
    have sc := sc_nth_gilbreath
    have tk := takes_of (X := cxOf (L2.CX P w) P w K mg base ["cards", "n", "first"] "nth_gilbreath" (defScope s_nth_gilbreath) T.a_nth_gilbreath cdv A outer s H E) rfl rfl rfl rfl
    have po := passes_of (X := cxOf (L2.CX P w) P w K mg base ["cards", "n", "first"] "nth_gilbreath" (defScope s_nth_gilbreath) T.a_nth_gilbreath cdv A outer s H E) rfl
    exact (s_cons (s_expr (w1 (d_call (ok_check_between T) (hr.mono (by decide)) T.m_check_between T.F_check_between.kp T.b_check_between tk (a_cons (d_var 0) (a_cons d_int (a_cons (d_gint T.k_MOST_CARDS) a_nil)))))) (s_cons (s_if (PW.pt (t_or (t_lt (f_var 1) (w1 d_int)) (t_or1 (t_ge (f_var 1) (w1 (d_call (ok_gilbreaths_of T) (hr.mono (by decide)) T.m_gilbreaths_of T.F_gilbreaths_of.kp T.b_gilbreaths_of tk (a_cons (d_var 0) a_nil))))))) (s_one (s_raise (CX := L2.CX P w) T.x_OutOfRange.oex T.x_OutOfRange.iC T.x_OutOfRange.tI (T.x_OutOfRange.ok _ _) (hr.mono (by decide)) T.x_OutOfRange.b tk T.x_OutOfRange.m (a_cons (d_var 1) a_nil))) s_nil) (s_cons (s_set (ow' := [0, 0, 0]) 2 d_int sc.nd) (s_cons (s_while po (t_ge (f_var 1) (w1 (d_call (ok_combinations T) (hr.mono (by decide)) T.m_combinations T.F_combinations.kp T.b_combinations tk (a_cons (d_sub (f_var 0) (w1 d_int)) (a_cons (d_var 2) a_nil))))) (s_cons (s_aug (ow' := [0, 0, 0]) 1 hr_subA iop_sub (w1 (d_call (ok_combinations T) (hr.mono (by decide)) T.m_combinations T.F_combinations.kp T.b_combinations tk (a_cons (d_sub (f_var 0) (w1 d_int)) (a_cons (d_var 2) a_nil)))) sc.nd) (s_one (s_aug (ow' := [0, 0, 0]) 2 hr_addA iop_addA (w1 d_int) sc.nd)))) (s_one (s_ret (d_add (w1 (e_of_n (n_lst (a_cons (d_var 2) a_nil)))) (w1 (d_call (ok_merged_at T) (hr.mono (by decide)) T.m_merged_at T.F_merged_at.kp T.b_merged_at tk (a_cons (e_of_n (n_rev (w1 (e_of_n (n_listrg1 T.n_list T.n_range (f_var 2)))))) (a_cons (e_of_n (n_listrg2 T.n_list T.n_range (w1 (d_add (f_var 2) (w1 d_int))) (f_var 0))) (a_cons (d_var 1) a_nil))))))))))))
theorem ok_rank_gilbreath (T : TX K mg P w) : FnOk P w K mg base (L2.CX P w) 4 T.a_rank_gilbreath T.fd_rank_gilbreath ["order"] (spD K mg 1 F_rank_gilbreath) :=
  ok_of (owN := [0, 0, 0, 0, 0, 0]) T.F_rank_gilbreath sc_rank_gilbreath fun cdv A outer s H B E hr => by
    have sc := sc_rank_gilbreath
    have tk := takes_of (X := cxOf (L2.CX P w) P w K mg base ["order", "rank", "card", "low", "high", "first"] "rank_gilbreath" (defScope s_rank_gilbreath) T.a_rank_gilbreath cdv A outer s H E) rfl rfl rfl rfl
    have po := passes_of (X := cxOf (L2.CX P w) P w K mg base ["order", "rank", "card", "low", "high", "first"] "rank_gilbreath" (defScope s_rank_gilbreath) T.a_rank_gilbreath cdv A outer s H E) rfl
    exact (s_cons (s_expr (w1 (d_call (ok_check_order T) (hr.mono (by decide)) T.m_check_order T.F_check_order.kp T.b_check_order tk (a_cons (d_var 0) a_nil)))) (s_cons (s_if (t_not (t_truth (w1 (d_call (ok_is_spread T) (hr.mono (by decide)) T.m_is_spread T.F_is_spread.kp T.b_is_spread tk (a_cons (d_var 0) a_nil))))) (s_one (s_ret d_non)) s_nil) (s_cons (s_if (t_eq hr (w1 (d_len T.n_len (a_cons (f_var 0) a_nil))) (w1 d_int)) (s_one (s_ret d_int)) s_nil) (s_cons (s_set (ow' := [0, 0, 0, 0, 0, 0]) 1 (d_sum T.n_sum (a_cons (w1 (e_of_n (n_lc [("first", 5)] sc.nd (i_rg1 (a_cons (w1 (d_ix (f_var 0) (w1 d_int))) a_nil) (hm := T.n_range)) (blkOk_by (N := ["order", "rank", "card", "low", "high", "first"]) (sc := defScope s_rank_gilbreath) (by decide +kernel)) (fun _ _ _ _ _ => (g_name 5 sc.nd)) (fun _ _ _ _ _ => ts_nil) (fun _ _ _ _ _ => (d_call (ok_combinations T) (hr.mono (by decide)) T.m_combinations T.F_combinations.kp T.b_combinations takes0 (a_cons (d_sub (w1 (d_len T.n_len (a_cons (f_var 0) a_nil))) (w1 d_int)) (a_cons (d_var 5) a_nil))))))) a_nil)) sc.nd) (s_cons (s_par (ow' := [0, 0, 0, 0, 0, 0]) 3 4 (by decide) (a_cons (d_ix (f_var 0) (w1 d_int)) (a_cons (d_sub (w1 (d_sub (w1 (d_len T.n_len (a_cons (f_var 0) a_nil))) (w1 d_int))) (w1 (d_ix (f_var 0) (w1 d_int)))) a_nil)) sc.nd) (s_cons (s_for (vs := [2]) po (i_list (d_cut (f_var 0) (o_some (w1 d_int)) o_none)) (g_name 2 sc.nd) (s_one (s_if (t_lt (f_var 2) (w1 (d_ix (f_var 0) (w1 d_int)))) (s_one (s_aug (ow' := [0, 0, 0, 0, 0, 0]) 3 hr_subA iop_sub (w1 d_int) sc.nd)) (s_cons (s_aug (ow' := [0, 0, 0, 0, 0, 0]) 1 hr_addA iop_addA (w1 (d_if (t_gt (f_var 3) (w1 d_int)) (d_call (ok_combinations T) (hr.mono (by decide)) T.m_combinations T.F_combinations.kp T.b_combinations tk (a_cons (d_add (w1 (d_sub (f_var 3) (w1 d_int))) (f_var 4)) (a_cons (d_var 4) a_nil))) d_int)) sc.nd) (s_one (s_aug (ow' := [0, 0, 0, 0, 0, 0]) 4 hr_subA iop_sub (w1 d_int) sc.nd)))))) (s_one (s_ret (d_var 1)))))))))
theorem ok_gilbreath_cut (T : TX K mg P w) : FnOk P w K mg base (L2.CX P w) 4 T.a_gilbreath_cut T.fd_gilbreath_cut ["order"] (spD K mg 1 F_gilbreath_cut) :=
  ok_of (owN := [0]) T.F_gilbreath_cut sc_gilbreath_cut fun cdv A outer s H B E hr => by
    have sc := sc_gilbreath_cut
    have tk := takes_of (X := cxOf (L2.CX P w) P w K mg base ["order"] "gilbreath_cut" (defScope s_gilbreath_cut) T.a_gilbreath_cut cdv A outer s H E) rfl rfl rfl rfl
    have po := passes_of (X := cxOf (L2.CX P w) P w K mg base ["order"] "gilbreath_cut" (defScope s_gilbreath_cut) T.a_gilbreath_cut cdv A outer s H E) rfl
    exact (s_cons (s_expr (w1 (d_call (ok_check_order T) (hr.mono (by decide)) T.m_check_order T.F_check_order.kp T.b_check_order tk (a_cons (d_var 0) a_nil)))) (s_cons (s_if (t_not (t_truth (w1 (d_call (ok_is_spread T) (hr.mono (by decide)) T.m_is_spread T.F_is_spread.kp T.b_is_spread tk (a_cons (d_var 0) a_nil))))) (s_one (s_ret d_non)) s_nil) (s_one (s_ret (d_if (t_gt (w1 (d_len T.n_len (a_cons (f_var 0) a_nil))) (w1 d_int)) (d_ix (f_var 0) (w1 d_int)) d_int)))))
theorem ok_lists_of (T : TX K mg P w) : FnOk P w K mg base (L2.CX P w) 1 T.a_lists_of T.fd_lists_of ["size", "count"] (spD K mg 2 F_lists_of) :=
  ok_of (owN := [0, 0, 0, 0, 0]) T.F_lists_of sc_lists_of fun cdv A outer s H B E hr => by
    have sc := sc_lists_of
    have tk := takes_of (X := cxOf (L2.CX P w) P w K mg base ["size", "count", "lists", "place", "one"] "lists_of" (defScope s_lists_of) T.a_lists_of cdv A outer s H E) rfl rfl rfl rfl
    have po := passes_of (X := cxOf (L2.CX P w) P w K mg base ["size", "count", "lists", "place", "one"] "lists_of" (defScope s_lists_of) T.a_lists_of cdv A outer s H E) rfl
    exact (s_cons (s_set (ow' := [0, 0, 0, 0, 0]) 2 (e_of_n (n_lst (a_cons (e_of_n (n_lst a_nil)) a_nil))) sc.nd) (s_cons (s_for (vs := [3]) po (i_rg1 (a_cons (f_var 0) a_nil) (hm := T.n_range)) (g_name 3 sc.nd) (s_one (s_set (ow' := [0, 0, 0, 0, 0]) 2 (d_add (f_var 2) (w1 (e_of_n (n_lc [("one", 4)] sc.nd (i_list (d_var 2)) (blkOk_by (N := ["size", "count", "lists", "place", "one"]) (sc := defScope s_lists_of) (by decide +kernel)) (fun _ _ _ _ _ => (g_name 4 sc.nd)) (fun _ _ _ _ _ => ts_nil) (fun _ _ _ _ _ => (d_add (f_var 4) (w1 (e_of_n (n_lst (a_cons (d_var 3) a_nil)))))))))) sc.nd))) (s_one (s_ret (e_of_n (n_sortedM hr T.n_sorted (a_cons (w1 (e_of_n (n_lc [("one", 4)] sc.nd (i_list (d_var 2)) (blkOk_by (N := ["size", "count", "lists", "place", "one"]) (sc := defScope s_lists_of) (by decide +kernel)) (fun _ _ _ _ _ => (g_name 4 sc.nd)) (fun _ _ _ _ _ => (ts_one (PW.pt (t_or (t_isN (f_var 1)) (t_or1 (t_eq hr (w1 (d_len T.n_len (a_cons (f_var 4) a_nil))) (f_var 1))))))) (fun _ _ _ _ _ => (d_var 4))))) a_nil)))))))
theorem ok_laid (T : TX K mg P w) : FnOk P w K mg base (L2.CX P w) 1 T.a_laid T.fd_laid ["upper", "lower", "places"] (spD K mg 3 F_laid) :=
  ok_of (owN := [0, 0, 0, 3, 1, 0, 0, 0]) T.F_laid sc_laid fun cdv A outer s H B E hr => by
    have sc := sc_laid
    have tk := takes_of (X := cxOf (L2.CX P w) P w K mg base ["upper", "lower", "places", "told", "found", "place", "one", "other"] "laid" (defScope s_laid) T.a_laid cdv A outer s H E) rfl rfl rfl rfl
    have po := passes_of (X := cxOf (L2.CX P w) P w K mg base ["upper", "lower", "places", "told", "found", "place", "one", "other"] "laid" (defScope s_laid) T.a_laid cdv A outer s H E) rfl
    exact (s_cons (s_setDc (ow' := [0, 0, 0, 3, 0, 0, 0, 0]) 3 [("place", 5)] sc.nd (i_list (d_var 2)) (blkOk_by (N := ["upper", "lower", "places", "told", "found", "place", "one", "other"]) (sc := defScope s_laid) (by decide +kernel)) (fun _ _ _ _ _ => (g_name 5 sc.nd)) (fun _ _ _ _ _ => ts_nil) (fun _ _ _ _ _ => (d_var 5)) (fun _ _ _ _ _ => d_bl)) (s_cons (s_new (ow' := [0, 0, 0, 3, 1, 0, 0, 0]) 4 (n_lst a_nil) sc.nd) (s_cons (s_unp (vs := [6, 7]) (d_tup (a_cons d_int (a_cons d_int a_nil))) (g_tup (gs_cons (g_name 6 sc.nd) (gs_cons (g_name 7 sc.nd) gs_nil)))) (s_cons (s_for (vs := [5]) po (i_rg1 (a_cons (w1 (d_add (w1 (d_len T.n_len (a_cons (f_var 0) a_nil))) (w1 (d_len T.n_len (a_cons (f_var 1) a_nil))))) a_nil) (hm := T.n_range)) (g_name 5 sc.nd) (s_one (s_if (t_din ask_3 3 hr (d_var 5)) (s_cons (s_append 4 (d_ix (f_var 0) (f_var 6))) (s_one (s_aug (ow' := [0, 0, 0, 3, 1, 0, 0, 0]) 6 hr_addA iop_addA (w1 d_int) sc.nd))) (s_cons (s_append 4 (d_ix (f_var 1) (f_var 7))) (s_one (s_aug (ow' := [0, 0, 0, 3, 1, 0, 0, 0]) 7 hr_addA iop_addA (w1 d_int) sc.nd)))))) (s_one (s_ret (d_tuple T.n_tuple (a_cons (f_var 4) a_nil))))))))
theorem ok_made_orders (T : TX K mg P w) : FnOk P w K mg base (L2.CX P w) 2 T.a_made_orders T.fd_made_orders ["n", "way"] (spD K mg 2 F_made_orders) :=
  ok_of (owN := [0, 0, 0, 0, 0, 0, 0, 0, 0]) T.F_made_orders sc_made_orders fun cdv A outer s H B E hr => by
    have sc := sc_made_orders
    have tk := takes_of (X := cxOf (L2.CX P w) P w K mg base ["n", "way", "cards", "found", "count", "upper", "places", "order", "at"] "made_orders" (defScope s_made_orders) T.a_made_orders cdv A outer s H E) rfl rfl rfl rfl
    have po := passes_of (X := cxOf (L2.CX P w) P w K mg base ["n", "way", "cards", "found", "count", "upper", "places", "order", "at"] "made_orders" (defScope s_made_orders) T.a_made_orders cdv A outer s H E) rfl
    exact (s_cons (s_set (ow' := [0, 0, 0, 0, 0, 0, 0, 0, 0]) 2 (e_of_n (n_listrg1 T.n_list T.n_range (f_var 0))) sc.nd) (s_cons (s_dnew4 (ow' := [0, 0, 0, 4, 0, 0, 0, 0, 0]) 3 sc.nd) (s_cons (s_for (vs := [4]) po (i_rg1 (a_cons (w1 (d_add (f_var 0) (w1 d_int))) a_nil) (hm := T.n_range)) (g_name 4 sc.nd) (s_cons (s_set (ow' := [0, 0, 0, 4, 0, 0, 0, 0, 0]) 5 (d_if (t_truth (w1 (d_stw (f_var 1) (w1 d_str)))) (e_of_n (n_rev (w1 (d_cut (f_var 2) o_none (o_some (f_var 4)))))) (d_cut (f_var 2) o_none (o_some (f_var 4)))) sc.nd) (s_one (s_for (vs := [6]) po (i_list (d_call (ok_lists_of T) (hr.mono (by decide)) T.m_lists_of T.F_lists_of.kp T.b_lists_of tk (a_cons (d_var 0) (a_cons (d_var 4) a_nil)))) (g_name 6 sc.nd) (s_one (s_dput4 3 hr d_bl (d_call (ok_laid T) (hr.mono (by decide)) T.m_laid T.F_laid.kp T.b_laid tk (a_cons (d_var 5) (a_cons (d_cut (f_var 2) (o_some (f_var 4)) o_none) (a_cons (d_var 6) a_nil)))))))))) (s_cons (s_if (t_eq hr (f_var 1) (w1 d_str)) (s_one s_no) s_nil) (s_one (s_frz 3 (s_ret (e_of_n (n_lc [("order", 7)] sc.nd (i_list (e_of_n (n_sortedM hr T.n_sorted (a_cons (w1 (e_of_n (n_listKD T.n_list (a_cons (f_var 3) a_nil)))) a_nil)))) (blkOk_by (N := ["n", "way", "cards", "found", "count", "upper", "places", "order", "at"]) (sc := defScope s_made_orders) (by decide +kernel)) (fun _ _ _ _ _ => (g_name 7 sc.nd)) (fun _ _ _ _ _ => ts_nil) (fun _ _ _ _ _ => (e_of_n (n_list T.n_list (a_cons (f_var 7) a_nil)))))))))))))
theorem ok_all_orders (T : TX K mg P w) : FnOk P w K mg base (L2.CX P w) 2 T.a_all_orders T.fd_all_orders ["n"] (spD K mg 1 F_all_orders) :=
  ok_of (owN := [0, 0]) T.F_all_orders sc_all_orders fun cdv A outer s H B E hr => by
    have sc := sc_all_orders
    have tk := takes_of (X := cxOf (L2.CX P w) P w K mg base ["n", "at"] "all_orders" (defScope s_all_orders) T.a_all_orders cdv A outer s H E) rfl rfl rfl rfl
    have po := passes_of (X := cxOf (L2.CX P w) P w K mg base ["n", "at"] "all_orders" (defScope s_all_orders) T.a_all_orders cdv A outer s H E) rfl
    exact (s_one (s_ret (e_of_n (n_lc [("at", 1)] sc.nd (i_rg1 (a_cons (w1 (d_call (ok_factorial T) (hr.mono (by decide)) T.m_factorial T.F_factorial.kp T.b_factorial tk (a_cons (d_var 0) a_nil))) a_nil) (hm := T.n_range)) (blkOk_by (N := ["n", "at"]) (sc := defScope s_all_orders) (by decide +kernel)) (fun _ _ _ _ _ => (g_name 1 sc.nd)) (fun _ _ _ _ _ => ts_nil) (fun _ _ _ _ _ => (d_call (ok_order_at T) (hr.mono (by decide)) T.m_order_at T.F_order_at.kp T.b_order_at takes0 (a_cons (e_of_n (n_listrg1 T.n_list T.n_range (f_var 0))) (a_cons (d_var 1) a_nil))))))))
theorem ok_check_gilbreath (T : TX K mg P w) : FnOk P w K mg base (L2.CX P w) 4 T.a_check_gilbreath T.fd_check_gilbreath ["cards"] (spD K mg 1 F_check_gilbreath) :=
  ok_of (owN := [0, 0, 0]) T.F_check_gilbreath sc_check_gilbreath fun cdv A outer s H B E hr => by
    have sc := sc_check_gilbreath
    have tk := takes_of (X := cxOf (L2.CX P w) P w K mg base ["cards", "good", "order"] "check_gilbreath" (defScope s_check_gilbreath) T.a_check_gilbreath cdv A outer s H E) rfl rfl rfl rfl
    have po := passes_of (X := cxOf (L2.CX P w) P w K mg base ["cards", "good", "order"] "check_gilbreath" (defScope s_check_gilbreath) T.a_check_gilbreath cdv A outer s H E) rfl
    exact (s_cons (s_expr (w1 (d_call (ok_check_between T) (hr.mono (by decide)) T.m_check_between T.F_check_between.kp T.b_check_between tk (a_cons (d_var 0) (a_cons d_int (a_cons (d_gint T.k_MOST_SPREAD) a_nil)))))) (s_cons (s_setLc (ow' := [0, 0, 0]) 1 [("order", 2)] sc.nd (i_list (d_call (ok_all_orders T) (hr.mono (by decide)) T.m_all_orders T.F_all_orders.kp T.b_all_orders tk (a_cons (d_var 0) a_nil))) (blkOk_by (N := ["cards", "good", "order"]) (sc := defScope s_check_gilbreath) (by decide +kernel)) (fun _ _ _ _ _ => (g_name 2 sc.nd)) (fun _ _ _ _ _ => (ts_one (t_truth (w1 (d_call (ok_is_spread T) (hr.mono (by decide)) T.m_is_spread T.F_is_spread.kp T.b_is_spread takes0 (a_cons (d_var 2) a_nil)))))) (fun _ _ _ _ _ => (d_var 2)) (sw_true rfl rfl rfl (by decide +kernel))) (s_one (s_ret (d_and (w1 (d_eq hr (f_var 1) (w1 (d_call (ok_made_orders T) (hr.mono (by decide)) T.m_made_orders T.F_made_orders.kp T.b_made_orders tk (a_cons (d_var 0) (a_cons d_str a_nil)))))) (d_one (d_eq hr (w1 (d_len T.n_len (a_cons (f_var 1) a_nil))) (w1 (d_call (ok_gilbreaths_of T) (hr.mono (by decide)) T.m_gilbreaths_of T.F_gilbreaths_of.kp T.b_gilbreaths_of tk (a_cons (d_var 0) a_nil))))))))))
theorem ok__law_cell (T : TX K mg P w) : FnOk P w K mg base (L2.CX P w) 1 T.a__law_cell T.fd__law_cell ["script", "k"] (spD K mg 2 F__law_cell) :=
  ok_of (owN := [0, 0]) T.F__law_cell sc__law_cell fun cdv A outer s H B E hr => by
    have sc := sc__law_cell
    have tk := takes_of (X := cxOf (L2.CX P w) P w K mg base ["script", "k"] "_law_cell" (defScope s__law_cell) T.a__law_cell cdv A outer s H E) rfl rfl rfl rfl
    have po := passes_of (X := cxOf (L2.CX P w) P w K mg base ["script", "k"] "_law_cell" (defScope s__law_cell) T.a__law_cell cdv A outer s H E) rfl
    exact (s_cons (s_if (t_lt (f_var 1) (w1 (d_len T.n_len (a_cons (f_var 0) a_nil)))) (s_one (s_ret (d_ix (f_var 0) (f_var 1)))) s_nil) (s_one (s_ret d_int)))
theorem ok__law_draw (T : TX K mg P w) : FnOk P w K mg base (L2.CX P w) 1 T.a__law_draw T.fd__law_draw ["cell", "limits"] (spD K mg 2 F__law_draw) :=
  ok_of (owN := [0, 0, 0, 0, 0, 0, 0]) T.F__law_draw sc__law_draw fun cdv A outer s H B E hr => by
    have sc := sc__law_draw
    have tk := takes_of (X := cxOf (L2.CX P w) P w K mg base ["cell", "limits", "row", "rest", "great", "k", "mixed"] "_law_draw" (defScope s__law_draw) T.a__law_draw cdv A outer s H E) rfl rfl rfl rfl
    have po := passes_of (X := cxOf (L2.CX P w) P w K mg base ["cell", "limits", "row", "rest", "great", "k", "mixed"] "_law_draw" (defScope s__law_draw) T.a__law_draw cdv A outer s H E) rfl
    exact (s_cons (s_new (ow' := [0, 0, 1, 0, 0, 0, 0]) 2 (n_lst a_nil) sc.nd) (s_cons (s_set (ow' := [0, 0, 1, 0, 0, 0, 0]) 3 (d_abs T.n_abs (a_cons (f_var 0) a_nil)) sc.nd) (s_cons (s_set (ow' := [0, 0, 1, 0, 0, 0, 0]) 4 (d_ge (f_var 3) (w1 d_int)) sc.nd) (s_cons (s_for (vs := [5]) po (i_rg1 (a_cons (w1 (d_len T.n_len (a_cons (f_var 1) a_nil))) a_nil) (hm := T.n_range)) (g_name 5 sc.nd) (s_one (s_if (PW.pt (t_and (t_truth (f_var 4)) (t_and1 (t_ge (f_var 3) (w1 (d_ix (f_var 1) (f_var 5))))))) (s_cons (s_append 2 (d_mod (w1 (d_intc T.n_int (a_cons (f_var 3) a_nil))) (w1 (d_ix (f_var 1) (f_var 5))))) (s_one (s_set (ow' := [0, 0, 1, 0, 0, 0, 0]) 3 (d_fdiv (f_var 3) (w1 (d_ix (f_var 1) (f_var 5)))) sc.nd))) (s_cons (s_set (ow' := [0, 0, 1, 0, 0, 0, 0]) 6 (d_mod (w1 (d_intc T.n_int (a_cons (w1 (d_add (w1 (d_mul (w1 (d_abs T.n_abs (a_cons (f_var 0) a_nil))) (w1 d_int))) (w1 (d_mul (w1 (d_add (f_var 5) (w1 d_int))) (w1 d_int))))) a_nil))) (w1 d_int)) sc.nd) (s_cons (s_set (ow' := [0, 0, 1, 0, 0, 0, 0]) 6 (d_mod (w1 (d_intc T.n_int (a_cons (w1 (d_add (w1 (d_mul (f_var 6) (w1 d_int))) (w1 (d_mul (w1 (d_add (f_var 5) (w1 d_int))) (w1 d_int))))) a_nil))) (w1 d_int)) sc.nd) (s_one (s_append 2 (d_mod (w1 (d_intc T.n_int (a_cons (f_var 6) a_nil))) (w1 (d_ix (f_var 1) (f_var 5))))))))))) (s_one (s_frz 2 (s_ret (d_var 2))))))))
theorem ok__law_of_size (T : TX K mg P w) : FnOk P w K mg base (L2.CX P w) 2 T.a__law_of_size T.fd__law_of_size ["cell", "size"] (spD K mg 2 F__law_of_size) :=
  ok_of (owN := [0, 0, 0, 0, 0, 0]) T.F__law_of_size sc__law_of_size fun cdv A outer s H B E hr => by
    have sc := sc__law_of_size
    have tk := takes_of (X := cxOf (L2.CX P w) P w K mg base ["cell", "size", "left", "order", "pick", "k"] "_law_of_size" (defScope s__law_of_size) T.a__law_of_size cdv A outer s H E) rfl rfl rfl rfl
    have po := passes_of (X := cxOf (L2.CX P w) P w K mg base ["cell", "size", "left", "order", "pick", "k"] "_law_of_size" (defScope s__law_of_size) T.a__law_of_size cdv A outer s H E) rfl
    exact (s_cons (s_setLc (ow' := [0, 0, 0, 0, 0, 0]) 2 [("k", 5)] sc.nd (i_rg1 (a_cons (f_var 1) a_nil) (hm := T.n_range)) (blkOk_by (N := ["cell", "size", "left", "order", "pick", "k"]) (sc := defScope s__law_of_size) (by decide +kernel)) (fun _ _ _ _ _ => (g_name 5 sc.nd)) (fun _ _ _ _ _ => ts_nil) (fun _ _ _ _ _ => (d_var 5)) (sw_true rfl rfl rfl (by decide +kernel))) (s_cons (s_new (ow' := [0, 0, 0, 1, 0, 0]) 3 (n_lst a_nil) sc.nd) (s_cons (s_for (vs := [4]) po (i_list (d_call (ok__law_draw T) (hr.mono (by decide)) T.m__law_draw T.F__law_draw.kp T.b__law_draw tk (a_cons (d_var 0) (a_cons (e_of_n (n_lc [("k", 5)] sc.nd (i_rg1 (a_cons (f_var 1) a_nil) (hm := T.n_range)) (blkOk_by (N := ["cell", "size", "left", "order", "pick", "k"]) (sc := defScope s__law_of_size) (by decide +kernel)) (fun _ _ _ _ _ => (g_name 5 sc.nd)) (fun _ _ _ _ _ => ts_nil) (fun _ _ _ _ _ => (d_sub (f_var 1) (f_var 5))))) a_nil)))) (g_name 4 sc.nd) (s_cons (s_append 3 (d_ix (f_var 2) (f_var 4))) (s_one (s_set (ow' := [0, 0, 0, 1, 0, 0]) 2 (d_add (w1 (d_cut (f_var 2) o_none (o_some (f_var 4)))) (w1 (d_cut (f_var 2) (o_some (w1 (d_add (f_var 4) (w1 d_int)))) o_none))) sc.nd)))) (s_one (s_frz 3 (s_ret (d_var 3)))))))
theorem ok__law_told (T : TX K mg P w) : FnOk P w K mg base (L2.CX P w) 5 T.a__law_told T.fd__law_told ["way", "a", "b"] (spD K mg 3 F__law_told) :=
  ok_of (owN := [0, 0, 0, 0]) T.F__law_told sc__law_told fun cdv A outer s H B E hr => by
    have sc := sc__law_told
    have tk := takes_of (X := cxOf (L2.CX P w) P w K mg base ["way", "a", "b", "e"] "_law_told" (defScope s__law_told) T.a__law_told cdv A outer s H E) rfl rfl rfl rfl
    have po := passes_of (X := cxOf (L2.CX P w) P w K mg base ["way", "a", "b", "e"] "_law_told" (defScope s__law_told) T.a__law_told cdv A outer s H E) rfl
    exact (s_one (s_try errs_k11 sc.nd tk (fun _ _ _ tk1 po1 => (s_cons (s_if (t_eq hr (f_var 0) (w1 d_int)) (s_one (s_ret (d_tup (a_cons d_str (a_cons (d_call (ok_is_riffle T) (hr.mono (by decide)) T.m_is_riffle T.F_is_riffle.kp T.b_is_riffle tk1 (a_cons (d_var 1) a_nil)) a_nil))))) s_nil) (s_cons (s_if (t_eq hr (f_var 0) (w1 d_int)) (s_one (s_ret (d_tup (a_cons d_str (a_cons (d_call (ok_riffles_needed T) (hr.mono (by decide)) T.m_riffles_needed T.F_riffles_needed.kp T.b_riffles_needed tk1 (a_cons (d_var 1) a_nil)) a_nil))))) s_nil) (s_cons (s_if (t_eq hr (f_var 0) (w1 d_int)) (s_one (s_ret (d_tup (a_cons d_str (a_cons (d_call (ok_nth_riffle T) (hr.mono (by decide)) T.m_nth_riffle T.F_nth_riffle.kp T.b_nth_riffle tk1 (a_cons (d_var 1) (a_cons (d_var 2) a_nil))) a_nil))))) s_nil) (s_cons (s_if (t_eq hr (f_var 0) (w1 d_int)) (s_one (s_ret (d_tup (a_cons d_str (a_cons (d_call (ok_is_gilbreath T) (hr.mono (by decide)) T.m_is_gilbreath T.F_is_gilbreath.kp T.b_is_gilbreath tk1 (a_cons (d_var 1) a_nil)) a_nil))))) s_nil) (s_cons (s_if (t_eq hr (f_var 0) (w1 d_int)) (s_one (s_ret (d_tup (a_cons d_str (a_cons (d_call (ok_nth_gilbreath T) (hr.mono (by decide)) T.m_nth_gilbreath T.F_nth_gilbreath.kp T.b_nth_gilbreath tk1 (a_cons (d_var 1) (a_cons (d_var 2) a_nil))) a_nil))))) s_nil) (s_cons (s_if (t_eq hr (f_var 0) (w1 d_int)) (s_one (s_ret (d_tup (a_cons d_str (a_cons (d_call (ok_rank_gilbreath T) (hr.mono (by decide)) T.m_rank_gilbreath T.F_rank_gilbreath.kp T.b_rank_gilbreath tk1 (a_cons (d_var 1) a_nil)) a_nil))))) s_nil) (s_cons (s_if (t_eq hr (f_var 0) (w1 d_int)) (s_one (s_ret (d_tup (a_cons d_str (a_cons (d_call (ok_gilbreath_cut T) (hr.mono (by decide)) T.m_gilbreath_cut T.F_gilbreath_cut.kp T.b_gilbreath_cut tk1 (a_cons (d_var 1) a_nil)) a_nil))))) s_nil) (s_cons (s_if (t_eq hr (f_var 0) (w1 d_int)) (s_one (s_ret (d_tup (a_cons d_str (a_cons (d_call (ok_count_riffles T) (hr.mono (by decide)) T.m_count_riffles T.F_count_riffles.kp T.b_count_riffles tk1 (a_cons (d_var 1) a_nil)) a_nil))))) s_nil) (s_one (s_ret (d_tup (a_cons d_str (a_cons (d_call (ok_count_gilbreath T) (hr.mono (by decide)) T.m_count_gilbreath T.F_count_gilbreath.kp T.b_count_gilbreath tk1 (a_cons (d_var 1) a_nil)) a_nil)))))))))))))) (.bare ⟨rfl, by decide, .inl T.g_NotOrder⟩ T.e_NotOrder (sui_ok fun a oe cls d pn B0 H0 dd fs' fs hz hf hd hcl hfr => s_one (s_ret (d_tup (a_cons d_str (a_cons d_int a_nil))))) (.named ⟨rfl, by decide, .inl T.g_OutOfRange⟩ T.g_OutOfRange (by decide) T.e_OutOfRange rfl rfl (sui_ok fun a oe cls d pn B0 H0 dd fs' fs hz hf hd hcl hfr => s_one (s_ret (d_tup (a_cons d_str (a_cons (d_fld T.x_OutOfRange.xf (T.x_OutOfRange.nf _ (by decide)) hz hf hd (hcl rfl) hfr) a_nil))))) (.bare ⟨rfl, by decide, .inl T.g_TrickError⟩ T.e_TrickError (sui_ok fun a oe cls d pn B0 H0 dd fs' fs hz hf hd hcl hfr => s_one (s_ret (d_tup (a_cons d_str (a_cons d_int a_nil))))) .nil)))))
theorem ok__law_laid (T : TX K mg P w) : FnOk P w K mg base (L2.CX P w) 1 T.a__law_laid T.fd__law_laid ["upper", "lower"] (spD K mg 2 F__law_laid) :=
  ok_of (owN := [0, 0, 0, 0, 0, 0, 0, 0, 0, 0]) T.F__law_laid sc__law_laid fun cdv A outer s H B E hr => by
    have sc := sc__law_laid
    have tk := takes_of (X := cxOf (L2.CX P w) P w K mg base ["upper", "lower", "rows", "size", "turn", "longer", "row", "taken", "rest", "card"] "_law_laid" (defScope s__law_laid) T.a__law_laid cdv A outer s H E) rfl rfl rfl rfl
    have po := passes_of (X := cxOf (L2.CX P w) P w K mg base ["upper", "lower", "rows", "size", "turn", "longer", "row", "taken", "rest", "card"] "_law_laid" (defScope s__law_laid) T.a__law_laid cdv A outer s H E) rfl
    exact (s_cons (s_set (ow' := [0, 0, 0, 0, 0, 0, 0, 0, 0, 0]) 2 (e_of_n (n_lst (a_cons (e_of_n (n_lst a_nil)) a_nil))) sc.nd) (s_cons (s_set (ow' := [0, 0, 0, 0, 0, 0, 0, 0, 0, 0]) 3 (d_add (w1 (d_len T.n_len (a_cons (f_var 0) a_nil))) (w1 (d_len T.n_len (a_cons (f_var 1) a_nil)))) sc.nd) (s_cons (s_for (vs := [4]) po (i_rg1 (a_cons (f_var 3) a_nil) (hm := T.n_range)) (g_name 4 sc.nd) (s_cons (s_new (ow' := [0, 0, 0, 0, 0, 1, 0, 0, 0, 0]) 5 (n_lst a_nil) sc.nd) (s_cons (s_for (vs := [6]) po (i_list (d_var 2)) (g_name 6 sc.nd) (s_cons (s_set (ow' := [0, 0, 0, 0, 0, 1, 0, 0, 0, 0]) 7 (d_len T.n_len (a_cons (w1 (e_of_n (n_lc [("card", 9)] sc.nd (i_list (d_var 6)) (blkOk_by (N := ["upper", "lower", "rows", "size", "turn", "longer", "row", "taken", "rest", "card"]) (sc := defScope s__law_laid) (by decide +kernel)) (fun _ _ _ _ _ => (g_name 9 sc.nd)) (fun _ _ _ _ _ => (ts_one (t_in hr (f_var 9) (f_var 0)))) (fun _ _ _ _ _ => (d_var 9))))) a_nil)) sc.nd) (s_cons (s_set (ow' := [0, 0, 0, 0, 0, 1, 0, 0, 0, 0]) 8 (d_sub (w1 (d_len T.n_len (a_cons (f_var 6) a_nil))) (f_var 7)) sc.nd) (s_cons (s_if (t_lt (f_var 7) (w1 (d_len T.n_len (a_cons (f_var 0) a_nil)))) (s_one (s_append 5 (d_add (f_var 6) (w1 (e_of_n (n_lst (a_cons (d_ix (f_var 0) (f_var 7)) a_nil))))))) s_nil) (s_one (s_if (t_lt (f_var 8) (w1 (d_len T.n_len (a_cons (f_var 1) a_nil)))) (s_one (s_append 5 (d_add (f_var 6) (w1 (e_of_n (n_lst (a_cons (d_ix (f_var 1) (f_var 8)) a_nil))))))) s_nil)))))) (s_one (s_frz 5 (s_set (ow' := [0, 0, 0, 0, 0, 0, 0, 0, 0, 0]) 2 (d_var 5) sc.nd)))))) (s_one (s_ret (d_var 2))))))
theorem ok__law_all (T : TX K mg P w) : FnOk P w K mg base (L2.CX P w) 2 T.a__law_all T.fd__law_all ["size", "turned"] (spD K mg 2 F__law_all) :=
  ok_of (owN := [0, 0, 1, 0, 0, 0, 0]) T.F__law_all sc__law_all fun cdv A outer s H B E hr => by
    have sc := sc__law_all
    have tk := takes_of (X := cxOf (L2.CX P w) P w K mg base ["size", "turned", "found", "k", "upper", "row", "card"] "_law_all" (defScope s__law_all) T.a__law_all cdv A outer s H E) rfl rfl rfl rfl
    have po := passes_of (X := cxOf (L2.CX P w) P w K mg base ["size", "turned", "found", "k", "upper", "row", "card"] "_law_all" (defScope s__law_all) T.a__law_all cdv A outer s H E) rfl
    exact (s_cons (s_new (ow' := [0, 0, 1, 0, 0, 0, 0]) 2 (n_lst a_nil) sc.nd) (s_cons (s_for (vs := [3]) po (i_rg1 (a_cons (w1 (d_add (f_var 0) (w1 d_int))) a_nil) (hm := T.n_range)) (g_name 3 sc.nd) (s_cons (s_setLc (ow' := [0, 0, 1, 0, 0, 0, 0]) 4 [("card", 6)] sc.nd (i_rg1 (a_cons (f_var 3) a_nil) (hm := T.n_range)) (blkOk_by (N := ["size", "turned", "found", "k", "upper", "row", "card"]) (sc := defScope s__law_all) (by decide +kernel)) (fun _ _ _ _ _ => (g_name 6 sc.nd)) (fun _ _ _ _ _ => ts_nil) (fun _ _ _ _ _ => (d_var 6)) (sw_true rfl rfl rfl (by decide +kernel))) (s_cons (s_if (t_truth (f_var 1)) (s_one (s_setLc (ow' := [0, 0, 1, 0, 0, 0, 0]) 4 [("card", 6)] sc.nd (i_rg1 (a_cons (f_var 3) a_nil) (hm := T.n_range)) (blkOk_by (N := ["size", "turned", "found", "k", "upper", "row", "card"]) (sc := defScope s__law_all) (by decide +kernel)) (fun _ _ _ _ _ => (g_name 6 sc.nd)) (fun _ _ _ _ _ => ts_nil) (fun _ _ _ _ _ => (d_sub (w1 (d_sub (f_var 3) (w1 d_int))) (f_var 6))) (sw_true rfl rfl rfl (by decide +kernel)))) s_nil) (s_one (s_for (vs := [5]) po (i_list (d_call (ok__law_laid T) (hr.mono (by decide)) T.m__law_laid T.F__law_laid.kp T.b__law_laid tk (a_cons (d_var 4) (a_cons (e_of_n (n_lc [("card", 6)] sc.nd (i_rg2 (a_cons (f_var 3) (a_cons (f_var 0) a_nil)) (hm := T.n_range)) (blkOk_by (N := ["size", "turned", "found", "k", "upper", "row", "card"]) (sc := defScope s__law_all) (by decide +kernel)) (fun _ _ _ _ _ => (g_name 6 sc.nd)) (fun _ _ _ _ _ => ts_nil) (fun _ _ _ _ _ => (d_var 6)))) a_nil)))) (g_name 5 sc.nd) (s_one (s_if (t_notin hr (f_var 5) (f_var 2)) (s_one (s_append 2 (d_var 5))) s_nil))))))) (s_one (s_ret (e_of_n (n_sortedM hr T.n_sorted (a_cons (f_var 2) a_nil)))))))
theorem ok__law_needed (T : TX K mg P w) : FnOk P w K mg base (L2.CX P w) 1 T.a__law_needed T.fd__law_needed ["order"] (spD K mg 1 F__law_needed) :=
  ok_of (owN := [0, 0, 0, 0, 0, 0]) T.F__law_needed sc__law_needed fun cdv A outer s H B E hr => by
    have sc := sc__law_needed
    have tk := takes_of (X := cxOf (L2.CX P w) P w K mg base ["order", "rising_of_v", "need", "power", "turn", "card"] "_law_needed" (defScope s__law_needed) T.a__law_needed cdv A outer s H E) rfl rfl rfl rfl
    have po := passes_of (X := cxOf (L2.CX P w) P w K mg base ["order", "rising_of_v", "need", "power", "turn", "card"] "_law_needed" (defScope s__law_needed) T.a__law_needed cdv A outer s H E) rfl
    exact (s_cons (s_set (ow' := [0, 0, 0, 0, 0, 0]) 1 (d_add (w1 d_int) (w1 (d_len T.n_len (a_cons (w1 (e_of_n (n_lc [("card", 5)] sc.nd (i_rg2 (a_cons (w1 d_int) (a_cons (w1 (d_len T.n_len (a_cons (f_var 0) a_nil))) a_nil)) (hm := T.n_range)) (blkOk_by (N := ["order", "rising_of_v", "need", "power", "turn", "card"]) (sc := defScope s__law_needed) (by decide +kernel)) (fun _ _ _ _ _ => (g_name 5 sc.nd)) (fun _ _ _ _ _ => (ts_one (t_lt (w1 (d_index hr (f_var 0) (a_cons (f_var 5) a_nil))) (w1 (d_index hr (f_var 0) (a_cons (w1 (d_sub (f_var 5) (w1 d_int))) a_nil)))))) (fun _ _ _ _ _ => (d_var 5))))) a_nil)))) sc.nd) (s_cons (s_set (ow' := [0, 0, 0, 0, 0, 0]) 2 d_int sc.nd) (s_cons (s_set (ow' := [0, 0, 0, 0, 0, 0]) 3 d_int sc.nd) (s_cons (s_for (vs := [4]) po (i_rg1 (a_cons (w1 d_int) a_nil) (hm := T.n_range)) (g_name 4 sc.nd) (s_one (s_if (t_lt (f_var 3) (f_var 1)) (s_cons (s_set (ow' := [0, 0, 0, 0, 0, 0]) 3 (d_mul (w1 d_int) (f_var 3)) sc.nd) (s_one (s_set (ow' := [0, 0, 0, 0, 0, 0]) 2 (d_add (f_var 2) (w1 d_int)) sc.nd))) s_nil))) (s_one (s_ret (d_var 2)))))))
def h_law : Env → Out := seqS (sSet 1 (b2 (eC (.int 1)) (b2 (cB (aC (cF 2 (aC (eV 0) (aC (eC (.int 0)) (aN))) F__law_cell) (aN)) intD) (eC (.int 6)) modD) addD)) (seqS (sSet 2 (cF 2 (aC (eV 1) (aC (eC (.bool false)) (aN))) F__law_all)) (seqS (sSet 3 (cF 2 (aC (eV 1) (aC (eC (.bool true)) (aN))) F__law_all)) (seqS (sSet 4 (cF 2 (aC (cB (aC (cF 2 (aC (eV 0) (aC (eC (.int 1)) (aN))) F__law_cell) (aN)) absD) (aC (eV 1) (aN))) F__law_of_size)) (seqS (ifS (b1 (b2 (b2 (cB (aC (cF 2 (aC (eV 0) (aC (eC (.int 2)) (aN))) F__law_cell) (aN)) intD) (eC (.int 3)) modD) (eC (.int 1)) eqD) boolO) (sSet 4 (b2 (eV 2) (b2 (cB (aC (cF 2 (aC (eV 0) (aC (eC (.int 1)) (aN))) F__law_cell) (aN)) intD) (cB (aC (eV 2) (aN)) lenD) modD) ixD)) (sNx)) (seqS (ifS (b1 (b2 (b2 (cB (aC (cF 2 (aC (eV 0) (aC (eC (.int 2)) (aN))) F__law_cell) (aN)) intD) (eC (.int 3)) modD) (eC (.int 2)) eqD) boolO) (sSet 4 (b2 (eV 3) (b2 (cB (aC (cF 2 (aC (eV 0) (aC (eC (.int 1)) (aN))) F__law_cell) (aN)) intD) (cB (aC (eV 3) (aN)) lenD) modD) ixD)) (sNx)) (seqS (sSet 5 (cF 3 (aC (eC (.int 0)) (aC (eL (cB (aC (eV 4) (aN)) lstD)) (aC (eC (.int 0)) (aN)))) F__law_told)) (seqS (ifS (tOr' (b1 (b2 (eV 5) (eT (aC (eC (.str "value")) (aC (b2 (eV 4) (eV 2) (inD false)) (aN)))) neD) boolO) (tOr' (tNot' (b1 (b1 (b2 (eV 5) (eC (.int 1)) ixD) (isiD "bool")) truD)) (b1 (b2 (cF 3 (aC (eC (.int 1)) (aC (eL (cB (aC (eV 4) (aN)) lstD)) (aC (eC (.int 0)) (aN)))) F__law_told) (eT (aC (eC (.str "value")) (aC (cF 1 (aC (eV 4) (aN)) F__law_needed) (aN)))) neD) boolO))) (sRet (eC (.bool false))) (sNx)) (seqS (sSet 5 (cF 3 (aC (eC (.int 3)) (aC (eL (cB (aC (eV 4) (aN)) lstD)) (aC (eC (.int 0)) (aN)))) F__law_told)) (seqS (ifS (tOr' (b1 (b2 (eV 5) (eT (aC (eC (.str "value")) (aC (b2 (eV 4) (eV 3) (inD false)) (aN)))) neD) boolO) (tNot' (b1 (b1 (b2 (eV 5) (eC (.int 1)) ixD) (isiD "bool")) truD))) (sRet (eC (.bool false))) (sNx)) (seqS (sSet 6 (eC .none)) (seqS (sSet 7 (eC .none)) (seqS (ifS (b1 (b2 (eV 4) (eV 3) (inD false)) boolO) (seqS (sSet 6 (eIdx (eV 3) (aC (eV 4) (aN)))) (sFor (cB (aC (b2 (eV 1) (eC (.int 1)) addD) (aN)) rg1) (tgN 15) (ifS (tAnd' (b1 (b1 (eV 7) fun d => some (.bool (isNoneD d))) boolO) (b1 (b2 (eV 4) (cF 2 (aC (eL (nLc [16] (cB (aC (eV 15) (aN)) rg1) (tgN 16) (tsYes) (b2 (b2 (eV 15) (eC (.int 1)) subD) (eV 16) subD))) (aC (eL (nLc [16] (cB (aC (eV 15) (aC (eV 1) (aN))) rg2) (tgN 16) (tsYes) (eV 16))) (aN))) F__law_laid) (inD false)) boolO)) (sSet 7 (eV 15)) (sNx)))) (sNx)) (seqS (ifS (tOr' (b1 (b2 (cF 3 (aC (eC (.int 5)) (aC (eL (cB (aC (eV 4) (aN)) lstD)) (aC (eC (.int 0)) (aN)))) F__law_told) (eT (aC (eC (.str "value")) (aC (eV 6) (aN)))) neD) boolO) (b1 (b2 (cF 3 (aC (eC (.int 6)) (aC (eL (cB (aC (eV 4) (aN)) lstD)) (aC (eC (.int 0)) (aN)))) F__law_told) (eT (aC (eC (.str "value")) (aC (eV 7) (aN)))) neD) boolO)) (sRet (eC (.bool false))) (sNx)) (seqS (sSet 8 (b2 (cB (aC (cF 2 (aC (eV 0) (aC (eC (.int 3)) (aN))) F__law_cell) (aN)) intD) (cB (aC (eV 2) (aN)) lenD) modD)) (seqS (ifS (tOr' (b1 (b2 (cF 3 (aC (eC (.int 2)) (aC (eV 1) (aC (eV 8) (aN)))) F__law_told) (eT (aC (eC (.str "value")) (aC (b2 (eV 2) (eV 8) ixD) (aN)))) neD) boolO) (tOr' (b1 (b2 (cF 3 (aC (eC (.int 7)) (aC (eV 1) (aC (eC (.int 0)) (aN)))) F__law_told) (eT (aC (eC (.str "value")) (aC (cB (aC (eV 2) (aN)) lenD) (aN)))) neD) boolO) (b1 (b2 (cF 3 (aC (eC (.int 2)) (aC (eV 1) (aC (cB (aC (eV 2) (aN)) lenD) (aN)))) F__law_told) (eT (aC (eC (.str "range")) (aC (cB (aC (eV 2) (aN)) lenD) (aN)))) neD) boolO))) (sRet (eC (.bool false))) (sNx)) (seqS (sSet 9 (b2 (cB (aC (cF 2 (aC (eV 0) (aC (eC (.int 3)) (aN))) F__law_cell) (aN)) intD) (cB (aC (eV 3) (aN)) lenD) modD)) (seqS (ifS (tOr' (b1 (b2 (cF 3 (aC (eC (.int 4)) (aC (eV 1) (aC (eV 9) (aN)))) F__law_told) (eT (aC (eC (.str "value")) (aC (b2 (eV 3) (eV 9) ixD) (aN)))) neD) boolO) (tOr' (b1 (b2 (cF 3 (aC (eC (.int 8)) (aC (eV 1) (aC (eC (.int 0)) (aN)))) F__law_told) (eT (aC (eC (.str "value")) (aC (cB (aC (eV 3) (aN)) lenD) (aN)))) neD) boolO) (b1 (b2 (cF 3 (aC (eC (.int 4)) (aC (eV 1) (aC (cB (aC (eV 3) (aN)) lenD) (aN)))) F__law_told) (eT (aC (eC (.str "range")) (aC (cB (aC (eV 3) (aN)) lenD) (aN)))) neD) boolO))) (sRet (eC (.bool false))) (sNx)) (seqS (sSet 10 (b2 (eC (.int 1)) (b2 (cB (aC (cF 2 (aC (eV 0) (aC (eC (.int 4)) (aN))) F__law_cell) (aN)) intD) (eC (.int 200)) modD) addD)) (seqS (sSet 11 (eC (.int 1))) (seqS (sFor (cB (aC (eV 10) (aN)) rg1) (tgN 12) (sSet 11 (b2 (eC (.int 2)) (eV 11) mulD))) (seqS (ifS (tOr' (b1 (b2 (cF 3 (aC (eC (.int 7)) (aC (eV 10) (aC (eC (.int 0)) (aN)))) F__law_told) (eT (aC (eC (.str "value")) (aC (b2 (eV 11) (eV 10) subD) (aN)))) neD) boolO) (b1 (b2 (cF 3 (aC (eC (.int 8)) (aC (eV 10) (aC (eC (.int 0)) (aN)))) F__law_told) (eT (aC (eC (.str "value")) (aC (b2 (eV 11) (eC (.int 2)) fdivWD) (aN)))) neD) boolO)) (sRet (eC (.bool false))) (sNx)) (seqS (sSet 13 (b2 (cB (aC (cF 2 (aC (eV 0) (aC (eC (.int 5)) (aN))) F__law_cell) (aN)) intD) (b2 (eV 11) (eC (.int 2)) fdivWD) modD)) (seqS (sSet 14 (cF 3 (aC (eC (.int 4)) (aC (eV 10) (aC (eV 13) (aN)))) F__law_told)) (seqS (ifS (tOr' (b1 (b2 (b2 (eV 14) (eC (.int 0)) ixD) (eC (.str "value")) neD) boolO) (tOr' (b1 (b2 (cF 3 (aC (eC (.int 5)) (aC (b2 (eV 14) (eC (.int 1)) ixD) (aC (eC (.int 0)) (aN)))) F__law_told) (eT (aC (eC (.str "value")) (aC (eV 13) (aN)))) neD) boolO) (b1 (b2 (cF 3 (aC (eC (.int 3)) (aC (b2 (eV 14) (eC (.int 1)) ixD) (aC (eC (.int 0)) (aN)))) F__law_told) (eT (aC (eC (.str "value")) (aC (eC (.bool true)) (aN)))) neD) boolO))) (sRet (eC (.bool false))) (sNx)) (seqS (ifS (b1 (b2 (cF 1 (aC (cB (aC (eV 1) (aC (eC (.int 5)) (aN))) minD) (aN)) F_check_gilbreath) (eC (.bool true)) (isB true)) boolO) (sRet (eC (.bool false))) (sNx)) (seqS (ifS (tOr' (b1 (b2 (cF 3 (aC (eC (.int 2)) (aC (eC (.int 0)) (aC (b1 (eC (.int 1)) negD) (aN)))) F__law_told) (eT (aC (eC (.str "range")) (aC (eC (.int 0)) (aN)))) neD) boolO) (tOr' (b1 (b2 (cF 3 (aC (eC (.int 2)) (aC (eC (.int 201)) (aC (b1 (eC (.int 1)) negD) (aN)))) F__law_told) (eT (aC (eC (.str "range")) (aC (eC (.int 201)) (aN)))) neD) boolO) (tOr' (b1 (b2 (cF 3 (aC (eC (.int 2)) (aC (eC (.int 5)) (aC (b1 (eC (.int 1)) negD) (aN)))) F__law_told) (eT (aC (eC (.str "range")) (aC (b1 (eC (.int 1)) negD) (aN)))) neD) boolO) (b1 (b2 (cF 3 (aC (eC (.int 8)) (aC (eC (.int 0)) (aC (eC (.int 0)) (aN)))) F__law_told) (eT (aC (eC (.str "range")) (aC (eC (.int 0)) (aN)))) neD) boolO)))) (sRet (eC (.bool false))) (sNx)) (sRet (eAnd (b2 (cF 3 (aC (eC (.int 0)) (aC (eL (nL (aC (eC (.int 0)) (aC (eC (.int 2)) (aN))))) (aC (eC (.int 0)) (aN)))) F__law_told) (eT (aC (eC (.str "order")) (aC (eC (.int 0)) (aN)))) eqD) (eAnd (b2 (cF 3 (aC (eC (.int 3)) (aC (eL (nL (aC (eC (.int 1)) (aN)))) (aC (eC (.int 0)) (aN)))) F__law_told) (eT (aC (eC (.str "order")) (aC (eC (.int 0)) (aN)))) eqD) (b2 (cF 3 (aC (eC (.int 6)) (aC (eL (nL (aC (eC (.int 0)) (aC (eC (.int 0)) (aN))))) (aC (eC (.int 0)) (aN)))) F__law_told) (eT (aC (eC (.str "order")) (aC (eC (.int 0)) (aN)))) eqD))))))))))))))))))))))))))))))
theorem h_law_eq : h_law = g_law := rfl
theorem ok_law0 (T : TX K mg P w) : FnOk P w K mg base (L2.CX P w) 6 T.a_law T.fd_law ["script"] (spD K mg 1 (callS 17 h_law)) :=
  ok_of (owN := [0, 0, 0, 0, 0, 0, 0, 0, 0, 0, 0, 0, 0, 0, 0, 0, 0]) T.F_law sc_law fun cdv A outer s H B E hr => by
    have sc := sc_law
    have tk := takes_of (X := cxOf (L2.CX P w) P w K mg base ["script", "size", "riffled", "dealt", "order", "told", "rank", "cut_at", "n", "m", "wide", "whole", "turn", "spot", "great", "k", "card"] "law" (defScope s_law) T.a_law cdv A outer s H E) rfl rfl rfl rfl
    have po := passes_of (X := cxOf (L2.CX P w) P w K mg base ["script", "size", "riffled", "dealt", "order", "told", "rank", "cut_at", "n", "m", "wide", "whole", "turn", "spot", "great", "k", "card"] "law" (defScope s_law) T.a_law cdv A outer s H E) rfl
    exact (s_cons (s_set (ow' := [0, 0, 0, 0, 0, 0, 0, 0, 0, 0, 0, 0, 0, 0, 0, 0, 0]) 1 (d_add (w1 d_int) (w1 (d_mod (w1 (d_intc T.n_int (a_cons (w1 (d_call (ok__law_cell T) (hr.mono (by decide)) T.m__law_cell T.F__law_cell.kp T.b__law_cell tk (a_cons (d_var 0) (a_cons d_int a_nil)))) a_nil))) (w1 d_int)))) sc.nd) (s_cons (s_set (ow' := [0, 0, 0, 0, 0, 0, 0, 0, 0, 0, 0, 0, 0, 0, 0, 0, 0]) 2 (d_call (ok__law_all T) (hr.mono (by decide)) T.m__law_all T.F__law_all.kp T.b__law_all tk (a_cons (d_var 1) (a_cons d_bl a_nil))) sc.nd) (s_cons (s_set (ow' := [0, 0, 0, 0, 0, 0, 0, 0, 0, 0, 0, 0, 0, 0, 0, 0, 0]) 3 (d_call (ok__law_all T) (hr.mono (by decide)) T.m__law_all T.F__law_all.kp T.b__law_all tk (a_cons (d_var 1) (a_cons d_bl a_nil))) sc.nd) (s_cons (s_set (ow' := [0, 0, 0, 0, 0, 0, 0, 0, 0, 0, 0, 0, 0, 0, 0, 0, 0]) 4 (d_call (ok__law_of_size T) (hr.mono (by decide)) T.m__law_of_size T.F__law_of_size.kp T.b__law_of_size tk (a_cons (d_abs T.n_abs (a_cons (w1 (d_call (ok__law_cell T) (hr.mono (by decide)) T.m__law_cell T.F__law_cell.kp T.b__law_cell tk (a_cons (d_var 0) (a_cons d_int a_nil)))) a_nil)) (a_cons (d_var 1) a_nil))) sc.nd) (s_cons (s_if (t_eq hr (w1 (d_mod (w1 (d_intc T.n_int (a_cons (w1 (d_call (ok__law_cell T) (hr.mono (by decide)) T.m__law_cell T.F__law_cell.kp T.b__law_cell tk (a_cons (d_var 0) (a_cons d_int a_nil)))) a_nil))) (w1 d_int))) (w1 d_int)) (s_one (s_set (ow' := [0, 0, 0, 0, 0, 0, 0, 0, 0, 0, 0, 0, 0, 0, 0, 0, 0]) 4 (d_ix (f_var 2) (w1 (d_mod (w1 (d_intc T.n_int (a_cons (w1 (d_call (ok__law_cell T) (hr.mono (by decide)) T.m__law_cell T.F__law_cell.kp T.b__law_cell tk (a_cons (d_var 0) (a_cons d_int a_nil)))) a_nil))) (w1 (d_len T.n_len (a_cons (f_var 2) a_nil)))))) sc.nd)) s_nil) (s_cons (s_if (t_eq hr (w1 (d_mod (w1 (d_intc T.n_int (a_cons (w1 (d_call (ok__law_cell T) (hr.mono (by decide)) T.m__law_cell T.F__law_cell.kp T.b__law_cell tk (a_cons (d_var 0) (a_cons d_int a_nil)))) a_nil))) (w1 d_int))) (w1 d_int)) (s_one (s_set (ow' := [0, 0, 0, 0, 0, 0, 0, 0, 0, 0, 0, 0, 0, 0, 0, 0, 0]) 4 (d_ix (f_var 3) (w1 (d_mod (w1 (d_intc T.n_int (a_cons (w1 (d_call (ok__law_cell T) (hr.mono (by decide)) T.m__law_cell T.F__law_cell.kp T.b__law_cell tk (a_cons (d_var 0) (a_cons d_int a_nil)))) a_nil))) (w1 (d_len T.n_len (a_cons (f_var 3) a_nil)))))) sc.nd)) s_nil) (s_cons (s_set (ow' := [0, 0, 0, 0, 0, 0, 0, 0, 0, 0, 0, 0, 0, 0, 0, 0, 0]) 5 (d_call (ok__law_told T) (hr.mono (by decide)) T.m__law_told T.F__law_told.kp T.b__law_told tk (a_cons d_int (a_cons (e_of_n (n_list T.n_list (a_cons (f_var 4) a_nil))) (a_cons d_int a_nil)))) sc.nd) (s_cons (s_if (PW.pt (t_or (t_ne hr (f_var 5) (w1 (d_tup (a_cons d_str (a_cons (d_in hr (f_var 4) (f_var 2)) a_nil))))) (t_or (t_not (t_truth (w1 (d_isi "bool" T.n_isinstance T.n_bool rfl (w1 (d_ix (f_var 5) (w1 d_int))))))) (t_or1 (t_ne hr (w1 (d_call (ok__law_told T) (hr.mono (by decide)) T.m__law_told T.F__law_told.kp T.b__law_told tk (a_cons d_int (a_cons (e_of_n (n_list T.n_list (a_cons (f_var 4) a_nil))) (a_cons d_int a_nil))))) (w1 (d_tup (a_cons d_str (a_cons (d_call (ok__law_needed T) (hr.mono (by decide)) T.m__law_needed T.F__law_needed.kp T.b__law_needed tk (a_cons (d_var 4) a_nil)) a_nil))))))))) (s_one (s_ret d_bl)) s_nil) (s_cons (s_set (ow' := [0, 0, 0, 0, 0, 0, 0, 0, 0, 0, 0, 0, 0, 0, 0, 0, 0]) 5 (d_call (ok__law_told T) (hr.mono (by decide)) T.m__law_told T.F__law_told.kp T.b__law_told tk (a_cons d_int (a_cons (e_of_n (n_list T.n_list (a_cons (f_var 4) a_nil))) (a_cons d_int a_nil)))) sc.nd) (s_cons (s_if (PW.pt (t_or (t_ne hr (f_var 5) (w1 (d_tup (a_cons d_str (a_cons (d_in hr (f_var 4) (f_var 3)) a_nil))))) (t_or1 (t_not (t_truth (w1 (d_isi "bool" T.n_isinstance T.n_bool rfl (w1 (d_ix (f_var 5) (w1 d_int)))))))))) (s_one (s_ret d_bl)) s_nil) (s_cons (s_set (ow' := [0, 0, 0, 0, 0, 0, 0, 0, 0, 0, 0, 0, 0, 0, 0, 0, 0]) 6 d_non sc.nd) (s_cons (s_set (ow' := [0, 0, 0, 0, 0, 0, 0, 0, 0, 0, 0, 0, 0, 0, 0, 0, 0]) 7 d_non sc.nd) (s_cons (s_if (t_in hr (f_var 4) (f_var 3)) (s_cons (s_set (ow' := [0, 0, 0, 0, 0, 0, 0, 0, 0, 0, 0, 0, 0, 0, 0, 0, 0]) 6 (d_index hr (f_var 3) (a_cons (f_var 4) a_nil)) sc.nd) (s_one (s_for (vs := [15]) po (i_rg1 (a_cons (w1 (d_add (f_var 1) (w1 d_int))) a_nil) (hm := T.n_range)) (g_name 15 sc.nd) (s_one (s_if (PW.pt (t_and (t_isN (f_var 7)) (t_and1 (t_in hr (f_var 4) (w1 (d_call (ok__law_laid T) (hr.mono (by decide)) T.m__law_laid T.F__law_laid.kp T.b__law_laid tk (a_cons (e_of_n (n_lc [("card", 16)] sc.nd (i_rg1 (a_cons (f_var 15) a_nil) (hm := T.n_range)) (blkOk_by (N := ["script", "size", "riffled", "dealt", "order", "told", "rank", "cut_at", "n", "m", "wide", "whole", "turn", "spot", "great", "k", "card"]) (sc := defScope s_law) (by decide +kernel)) (fun _ _ _ _ _ => (g_name 16 sc.nd)) (fun _ _ _ _ _ => ts_nil) (fun _ _ _ _ _ => (d_sub (w1 (d_sub (f_var 15) (w1 d_int))) (f_var 16))))) (a_cons (e_of_n (n_lc [("card", 16)] sc.nd (i_rg2 (a_cons (f_var 15) (a_cons (f_var 1) a_nil)) (hm := T.n_range)) (blkOk_by (N := ["script", "size", "riffled", "dealt", "order", "told", "rank", "cut_at", "n", "m", "wide", "whole", "turn", "spot", "great", "k", "card"]) (sc := defScope s_law) (by decide +kernel)) (fun _ _ _ _ _ => (g_name 16 sc.nd)) (fun _ _ _ _ _ => ts_nil) (fun _ _ _ _ _ => (d_var 16)))) a_nil)))))))) (s_one (s_set (ow' := [0, 0, 0, 0, 0, 0, 0, 0, 0, 0, 0, 0, 0, 0, 0, 0, 0]) 7 (d_var 15) sc.nd)) s_nil))))) s_nil) (s_cons (s_if (PW.pt (t_or (t_ne hr (w1 (d_call (ok__law_told T) (hr.mono (by decide)) T.m__law_told T.F__law_told.kp T.b__law_told tk (a_cons d_int (a_cons (e_of_n (n_list T.n_list (a_cons (f_var 4) a_nil))) (a_cons d_int a_nil))))) (w1 (d_tup (a_cons d_str (a_cons (d_var 6) a_nil))))) (t_or1 (t_ne hr (w1 (d_call (ok__law_told T) (hr.mono (by decide)) T.m__law_told T.F__law_told.kp T.b__law_told tk (a_cons d_int (a_cons (e_of_n (n_list T.n_list (a_cons (f_var 4) a_nil))) (a_cons d_int a_nil))))) (w1 (d_tup (a_cons d_str (a_cons (d_var 7) a_nil)))))))) (s_one (s_ret d_bl)) s_nil) (s_cons (s_set (ow' := [0, 0, 0, 0, 0, 0, 0, 0, 0, 0, 0, 0, 0, 0, 0, 0, 0]) 8 (d_mod (w1 (d_intc T.n_int (a_cons (w1 (d_call (ok__law_cell T) (hr.mono (by decide)) T.m__law_cell T.F__law_cell.kp T.b__law_cell tk (a_cons (d_var 0) (a_cons d_int a_nil)))) a_nil))) (w1 (d_len T.n_len (a_cons (f_var 2) a_nil)))) sc.nd) (s_cons (s_if (PW.pt (t_or (t_ne hr (w1 (d_call (ok__law_told T) (hr.mono (by decide)) T.m__law_told T.F__law_told.kp T.b__law_told tk (a_cons d_int (a_cons (d_var 1) (a_cons (d_var 8) a_nil))))) (w1 (d_tup (a_cons d_str (a_cons (d_ix (f_var 2) (f_var 8)) a_nil))))) (t_or (t_ne hr (w1 (d_call (ok__law_told T) (hr.mono (by decide)) T.m__law_told T.F__law_told.kp T.b__law_told tk (a_cons d_int (a_cons (d_var 1) (a_cons d_int a_nil))))) (w1 (d_tup (a_cons d_str (a_cons (d_len T.n_len (a_cons (f_var 2) a_nil)) a_nil))))) (t_or1 (t_ne hr (w1 (d_call (ok__law_told T) (hr.mono (by decide)) T.m__law_told T.F__law_told.kp T.b__law_told tk (a_cons d_int (a_cons (d_var 1) (a_cons (d_len T.n_len (a_cons (f_var 2) a_nil)) a_nil))))) (w1 (d_tup (a_cons d_str (a_cons (d_len T.n_len (a_cons (f_var 2) a_nil)) a_nil))))))))) (s_one (s_ret d_bl)) s_nil) (s_cons (s_set (ow' := [0, 0, 0, 0, 0, 0, 0, 0, 0, 0, 0, 0, 0, 0, 0, 0, 0]) 9 (d_mod (w1 (d_intc T.n_int (a_cons (w1 (d_call (ok__law_cell T) (hr.mono (by decide)) T.m__law_cell T.F__law_cell.kp T.b__law_cell tk (a_cons (d_var 0) (a_cons d_int a_nil)))) a_nil))) (w1 (d_len T.n_len (a_cons (f_var 3) a_nil)))) sc.nd) (s_cons (s_if (PW.pt (t_or (t_ne hr (w1 (d_call (ok__law_told T) (hr.mono (by decide)) T.m__law_told T.F__law_told.kp T.b__law_told tk (a_cons d_int (a_cons (d_var 1) (a_cons (d_var 9) a_nil))))) (w1 (d_tup (a_cons d_str (a_cons (d_ix (f_var 3) (f_var 9)) a_nil))))) (t_or (t_ne hr (w1 (d_call (ok__law_told T) (hr.mono (by decide)) T.m__law_told T.F__law_told.kp T.b__law_told tk (a_cons d_int (a_cons (d_var 1) (a_cons d_int a_nil))))) (w1 (d_tup (a_cons d_str (a_cons (d_len T.n_len (a_cons (f_var 3) a_nil)) a_nil))))) (t_or1 (t_ne hr (w1 (d_call (ok__law_told T) (hr.mono (by decide)) T.m__law_told T.F__law_told.kp T.b__law_told tk (a_cons d_int (a_cons (d_var 1) (a_cons (d_len T.n_len (a_cons (f_var 3) a_nil)) a_nil))))) (w1 (d_tup (a_cons d_str (a_cons (d_len T.n_len (a_cons (f_var 3) a_nil)) a_nil))))))))) (s_one (s_ret d_bl)) s_nil) (s_cons (s_set (ow' := [0, 0, 0, 0, 0, 0, 0, 0, 0, 0, 0, 0, 0, 0, 0, 0, 0]) 10 (d_add (w1 d_int) (w1 (d_mod (w1 (d_intc T.n_int (a_cons (w1 (d_call (ok__law_cell T) (hr.mono (by decide)) T.m__law_cell T.F__law_cell.kp T.b__law_cell tk (a_cons (d_var 0) (a_cons d_int a_nil)))) a_nil))) (w1 d_int)))) sc.nd) (s_cons (s_set (ow' := [0, 0, 0, 0, 0, 0, 0, 0, 0, 0, 0, 0, 0, 0, 0, 0, 0]) 11 d_int sc.nd) (s_cons (s_for (vs := [12]) po (i_rg1 (a_cons (f_var 10) a_nil) (hm := T.n_range)) (g_name 12 sc.nd) (s_one (s_set (ow' := [0, 0, 0, 0, 0, 0, 0, 0, 0, 0, 0, 0, 0, 0, 0, 0, 0]) 11 (d_mul (w1 d_int) (f_var 11)) sc.nd))) (s_cons (s_if (PW.pt (t_or (t_ne hr (w1 (d_call (ok__law_told T) (hr.mono (by decide)) T.m__law_told T.F__law_told.kp T.b__law_told tk (a_cons d_int (a_cons (d_var 10) (a_cons d_int a_nil))))) (w1 (d_tup (a_cons d_str (a_cons (d_sub (f_var 11) (f_var 10)) a_nil))))) (t_or1 (t_ne hr (w1 (d_call (ok__law_told T) (hr.mono (by decide)) T.m__law_told T.F__law_told.kp T.b__law_told tk (a_cons d_int (a_cons (d_var 10) (a_cons d_int a_nil))))) (w1 (d_tup (a_cons d_str (a_cons (d_fdivW (f_var 11) (w1 d_int)) a_nil)))))))) (s_one (s_ret d_bl)) s_nil) (s_cons (s_set (ow' := [0, 0, 0, 0, 0, 0, 0, 0, 0, 0, 0, 0, 0, 0, 0, 0, 0]) 13 (d_mod (w1 (d_intc T.n_int (a_cons (w1 (d_call (ok__law_cell T) (hr.mono (by decide)) T.m__law_cell T.F__law_cell.kp T.b__law_cell tk (a_cons (d_var 0) (a_cons d_int a_nil)))) a_nil))) (w1 (d_fdivW (f_var 11) (w1 d_int)))) sc.nd) (s_cons (s_set (ow' := [0, 0, 0, 0, 0, 0, 0, 0, 0, 0, 0, 0, 0, 0, 0, 0, 0]) 14 (d_call (ok__law_told T) (hr.mono (by decide)) T.m__law_told T.F__law_told.kp T.b__law_told tk (a_cons d_int (a_cons (d_var 10) (a_cons (d_var 13) a_nil)))) sc.nd) (s_cons (s_if (PW.pt (t_or (t_ne hr (w1 (d_ix (f_var 14) (w1 d_int))) (w1 d_str)) (t_or (t_ne hr (w1 (d_call (ok__law_told T) (hr.mono (by decide)) T.m__law_told T.F__law_told.kp T.b__law_told tk (a_cons d_int (a_cons (d_ix (f_var 14) (w1 d_int)) (a_cons d_int a_nil))))) (w1 (d_tup (a_cons d_str (a_cons (d_var 13) a_nil))))) (t_or1 (t_ne hr (w1 (d_call (ok__law_told T) (hr.mono (by decide)) T.m__law_told T.F__law_told.kp T.b__law_told tk (a_cons d_int (a_cons (d_ix (f_var 14) (w1 d_int)) (a_cons d_int a_nil))))) (w1 (d_tup (a_cons d_str (a_cons d_bl a_nil))))))))) (s_one (s_ret d_bl)) s_nil) (s_cons (s_if (t_isnotB (w1 (d_call (ok_check_gilbreath T) (hr.mono (by decide)) T.m_check_gilbreath T.F_check_gilbreath.kp T.b_check_gilbreath tk (a_cons (d_min T.n_min (a_cons (f_var 1) (a_cons (w1 d_int) a_nil))) a_nil))) (w1 d_bl)) (s_one (s_ret d_bl)) s_nil) (s_cons (s_if (PW.pt (t_or (t_ne hr (w1 (d_call (ok__law_told T) (hr.mono (by decide)) T.m__law_told T.F__law_told.kp T.b__law_told tk (a_cons d_int (a_cons d_int (a_cons (d_neg (w1 d_int)) a_nil))))) (w1 (d_tup (a_cons d_str (a_cons d_int a_nil))))) (t_or (t_ne hr (w1 (d_call (ok__law_told T) (hr.mono (by decide)) T.m__law_told T.F__law_told.kp T.b__law_told tk (a_cons d_int (a_cons d_int (a_cons (d_neg (w1 d_int)) a_nil))))) (w1 (d_tup (a_cons d_str (a_cons d_int a_nil))))) (t_or (t_ne hr (w1 (d_call (ok__law_told T) (hr.mono (by decide)) T.m__law_told T.F__law_told.kp T.b__law_told tk (a_cons d_int (a_cons d_int (a_cons (d_neg (w1 d_int)) a_nil))))) (w1 (d_tup (a_cons d_str (a_cons (d_neg (w1 d_int)) a_nil))))) (t_or1 (t_ne hr (w1 (d_call (ok__law_told T) (hr.mono (by decide)) T.m__law_told T.F__law_told.kp T.b__law_told tk (a_cons d_int (a_cons d_int (a_cons d_int a_nil))))) (w1 (d_tup (a_cons d_str (a_cons d_int a_nil)))))))))) (s_one (s_ret d_bl)) s_nil) (s_one (s_ret (d_and (w1 (d_eq hr (w1 (d_call (ok__law_told T) (hr.mono (by decide)) T.m__law_told T.F__law_told.kp T.b__law_told tk (a_cons d_int (a_cons (e_of_n (n_lst (a_cons d_int (a_cons d_int a_nil)))) (a_cons d_int a_nil))))) (w1 (d_tup (a_cons d_str (a_cons d_int a_nil)))))) (d_and (w1 (d_eq hr (w1 (d_call (ok__law_told T) (hr.mono (by decide)) T.m__law_told T.F__law_told.kp T.b__law_told tk (a_cons d_int (a_cons (e_of_n (n_lst (a_cons d_int a_nil))) (a_cons d_int a_nil))))) (w1 (d_tup (a_cons d_str (a_cons d_int a_nil)))))) (d_one (d_eq hr (w1 (d_call (ok__law_told T) (hr.mono (by decide)) T.m__law_told T.F__law_told.kp T.b__law_told tk (a_cons d_int (a_cons (e_of_n (n_lst (a_cons d_int (a_cons d_int a_nil)))) (a_cons d_int a_nil))))) (w1 (d_tup (a_cons d_str (a_cons d_int a_nil)))))))))))))))))))))))))))))))))))))
theorem ok_law (T : TX K mg P w) : FnOk P w K mg base (L2.CX P w) 6 T.a_law T.fd_law ["script"] (spD K mg 1 F_law) := by
  have h := ok_law0 (w := w) (base := base) T
  rw [h_law_eq] at h
  exact h
end
end DL
set_option Elab.async false
set_option linter.all false
set_option maxRecDepth 100000
set_option maxHeartbeats 8000000

/-! What the top has written, and the end (printed by gen.py). -/
namespace DL
open PySem PySem.Spec PyProof.Rows L2

/-- the errors as they stand behind the top -/
theorem all_mk {P : Program} {w : World} {K : PySem.W.Frag} {h : Heap} {mg : Str → Option Value} {fa : Addr} (hP : (P.main.scope.names.lookup ("super" : Str)).isSome = false) (X : K.In h) (G : h.Ns mainGlobals mg) (hfa : mg "law" = some (.ref fa))
    {C_TrickError C_OutOfRange C_NotOrder N_OutOfRange I_OutOfRange cda_OutOfRange cc_OutOfRange N_NotOrder I_NotOrder cda_NotOrder cc_NotOrder f_check_between f_is_order f_check_order f_backward f_rising_of f_factorial f_order_at f_combinations f_power_of_two f_is_riffle f_riffles_needed f_riffles_of f_count_riffles f_merged_at f_nth_riffle f_is_spread f_is_gilbreath f_gilbreaths_of f_count_gilbreath f_nth_gilbreath f_rank_gilbreath f_gilbreath_cut f_lists_of f_laid f_made_orders f_all_orders f_check_gilbreath f__law_cell f__law_draw f__law_of_size f__law_told f__law_laid f__law_all f__law_needed f_law : Addr}
    {dd_OutOfRange od_OutOfRange an_OutOfRange cdd_OutOfRange cld_OutOfRange dd_NotOrder od_NotOrder an_NotOrder cdd_NotOrder cld_NotOrder od_check_between an_check_between od_is_order an_is_order od_check_order an_check_order od_backward an_backward od_rising_of an_rising_of od_factorial an_factorial od_order_at an_order_at od_combinations an_combinations od_power_of_two an_power_of_two od_is_riffle an_is_riffle od_riffles_needed an_riffles_needed od_riffles_of an_riffles_of od_count_riffles an_count_riffles od_merged_at an_merged_at od_nth_riffle an_nth_riffle od_is_spread an_is_spread od_is_gilbreath an_is_gilbreath od_gilbreaths_of an_gilbreaths_of od_count_gilbreath an_count_gilbreath od_nth_gilbreath an_nth_gilbreath od_rank_gilbreath an_rank_gilbreath od_gilbreath_cut an_gilbreath_cut od_lists_of an_lists_of od_laid an_laid od_made_orders an_made_orders od_all_orders an_all_orders od_check_gilbreath an_check_gilbreath od__law_cell an__law_cell od__law_draw an__law_draw od__law_of_size an__law_of_size od__law_told an__law_told od__law_laid an__law_laid od__law_all an__law_all od__law_needed an__law_needed od_law an_law : Option Addr}
    {m0_OutOfRange m1_OutOfRange m2_OutOfRange m3_OutOfRange m5_OutOfRange m0_NotOrder m1_NotOrder m2_NotOrder m3_NotOrder m5_NotOrder : Option Value}
    {oc_OutOfRange kV_OutOfRange dc_OutOfRange pm_OutOfRange ct_OutOfRange ccl_OutOfRange cl_OutOfRange oc_NotOrder kV_NotOrder dc_NotOrder pm_NotOrder ct_NotOrder ccl_NotOrder cl_NotOrder oc_check_between kV_check_between dc_check_between pm_check_between cd_check_between ct_check_between oc_is_order kV_is_order dc_is_order pm_is_order cd_is_order ct_is_order oc_check_order kV_check_order dc_check_order pm_check_order cd_check_order ct_check_order oc_backward kV_backward dc_backward pm_backward cd_backward ct_backward oc_rising_of kV_rising_of dc_rising_of pm_rising_of cd_rising_of ct_rising_of oc_factorial kV_factorial dc_factorial pm_factorial cd_factorial ct_factorial oc_order_at kV_order_at dc_order_at pm_order_at cd_order_at ct_order_at oc_combinations kV_combinations dc_combinations pm_combinations cd_combinations ct_combinations oc_power_of_two kV_power_of_two dc_power_of_two pm_power_of_two cd_power_of_two ct_power_of_two oc_is_riffle kV_is_riffle dc_is_riffle pm_is_riffle cd_is_riffle ct_is_riffle oc_riffles_needed kV_riffles_needed dc_riffles_needed pm_riffles_needed cd_riffles_needed ct_riffles_needed oc_riffles_of kV_riffles_of dc_riffles_of pm_riffles_of cd_riffles_of ct_riffles_of oc_count_riffles kV_count_riffles dc_count_riffles pm_count_riffles cd_count_riffles ct_count_riffles oc_merged_at kV_merged_at dc_merged_at pm_merged_at cd_merged_at ct_merged_at oc_nth_riffle kV_nth_riffle dc_nth_riffle pm_nth_riffle cd_nth_riffle ct_nth_riffle oc_is_spread kV_is_spread dc_is_spread pm_is_spread cd_is_spread ct_is_spread oc_is_gilbreath kV_is_gilbreath dc_is_gilbreath pm_is_gilbreath cd_is_gilbreath ct_is_gilbreath oc_gilbreaths_of kV_gilbreaths_of dc_gilbreaths_of pm_gilbreaths_of cd_gilbreaths_of ct_gilbreaths_of oc_count_gilbreath kV_count_gilbreath dc_count_gilbreath pm_count_gilbreath cd_count_gilbreath ct_count_gilbreath oc_nth_gilbreath kV_nth_gilbreath dc_nth_gilbreath pm_nth_gilbreath cd_nth_gilbreath ct_nth_gilbreath oc_rank_gilbreath kV_rank_gilbreath dc_rank_gilbreath pm_rank_gilbreath cd_rank_gilbreath ct_rank_gilbreath oc_gilbreath_cut kV_gilbreath_cut dc_gilbreath_cut pm_gilbreath_cut cd_gilbreath_cut ct_gilbreath_cut oc_lists_of kV_lists_of dc_lists_of pm_lists_of cd_lists_of ct_lists_of oc_laid kV_laid dc_laid pm_laid cd_laid ct_laid oc_made_orders kV_made_orders dc_made_orders pm_made_orders cd_made_orders ct_made_orders oc_all_orders kV_all_orders dc_all_orders pm_all_orders cd_all_orders ct_all_orders oc_check_gilbreath kV_check_gilbreath dc_check_gilbreath pm_check_gilbreath cd_check_gilbreath ct_check_gilbreath oc__law_cell kV__law_cell dc__law_cell pm__law_cell cd__law_cell ct__law_cell oc__law_draw kV__law_draw dc__law_draw pm__law_draw cd__law_draw ct__law_draw oc__law_of_size kV__law_of_size dc__law_of_size pm__law_of_size cd__law_of_size ct__law_of_size oc__law_told kV__law_told dc__law_told pm__law_told cd__law_told ct__law_told oc__law_laid kV__law_laid dc__law_laid pm__law_laid cd__law_laid ct__law_laid oc__law_all kV__law_all dc__law_all pm__law_all cd__law_all ct__law_all oc__law_needed kV__law_needed dc__law_needed pm__law_needed cd__law_needed ct__law_needed oc_law kV_law dc_law pm_law cd_law ct_law u_MOST_CARDS u_MOST_SPREAD : Value}
    {bs_OutOfRange bm_OutOfRange sub_OutOfRange bs_NotOrder bm_NotOrder sub_NotOrder : List Value}
    {nm_OutOfRange q_OutOfRange fl_OutOfRange nm_NotOrder q_NotOrder fl_NotOrder : Str}
    {osl_OutOfRange ccs_OutOfRange csl_OutOfRange osl_NotOrder ccs_NotOrder csl_NotOrder sl_check_between sl_is_order sl_check_order sl_backward sl_rising_of sl_factorial sl_order_at sl_combinations sl_power_of_two sl_is_riffle sl_riffles_needed sl_riffles_of sl_count_riffles sl_merged_at sl_nth_riffle sl_is_spread sl_is_gilbreath sl_gilbreaths_of sl_count_gilbreath sl_nth_gilbreath sl_rank_gilbreath sl_gilbreath_cut sl_lists_of sl_laid sl_made_orders sl_all_orders sl_check_gilbreath sl__law_cell sl__law_draw sl__law_of_size sl__law_told sl__law_laid sl__law_all sl__law_needed sl_law : Array (Option Value)}
    {sn_OutOfRange sn_NotOrder : List Str}
    {ab_OutOfRange ab_NotOrder : Bool}
    {col_OutOfRange col_NotOrder : Option Bool}
    {vs_OutOfRange vs_NotOrder : Array Value}
    {tf_OutOfRange tf_NotOrder : Tok}
    (aC_TrickError : PySem.W.nsIn K mainGlobals "TrickError" = some (some (.ref C_TrickError)))
    (aC_OutOfRange : PySem.W.nsIn K mainGlobals "OutOfRange" = some (some (.ref C_OutOfRange)))
    (aC_NotOrder : PySem.W.nsIn K mainGlobals "NotOrder" = some (some (.ref C_NotOrder)))
    (xL_OutOfRange : K.lookup C_OutOfRange = some (excClassObj nm_OutOfRange q_OutOfRange C_OutOfRange N_OutOfRange bs_OutOfRange bm_OutOfRange true sn_OutOfRange sub_OutOfRange ab_OutOfRange col_OutOfRange dd_OutOfRange m0_OutOfRange m1_OutOfRange m2_OutOfRange m3_OutOfRange m5_OutOfRange "ValueError.__new__"))
    (rv_OutOfRange : PySem.HandSPX.refsVE bm_OutOfRange = true)
    (sa_OutOfRange : PySem.W.findIn K (.ref C_OutOfRange) "__setattr__" = some (some (.builtin "object.__setattr__")))
    (ga_OutOfRange : PySem.W.findIn K (.ref C_OutOfRange) "__getattribute__" = some (some (.builtin "BaseException.__getattribute__")))
    (gg_OutOfRange : PySem.W.findIn K (.ref C_OutOfRange) "__getattr__" = some none)
    (nl_OutOfRange : PySem.W.findIn K (.ref C_OutOfRange) "label" = some none)
    (nfvalue_OutOfRange : PySem.W.findIn K (.ref C_OutOfRange) "value" = some none)
    (ai_OutOfRange : PySem.W.findIn K (.ref C_OutOfRange) "__init__" = some (some (.ref I_OutOfRange)))
    (ti_OutOfRange : PySem.W.typeIn K (.ref I_OutOfRange) = some (.type "function"))
    (li_OutOfRange : K.lookup I_OutOfRange = some ⟨oc_OutOfRange, od_OutOfRange, .func (PySem.W.ksFn "__init__" "OutOfRange.__init__" (defArgs i_OutOfRange) (defBody i_OutOfRange) (defScope i_OutOfRange) .none kV_OutOfRange dc_OutOfRange pm_OutOfRange an_OutOfRange (.ref cda_OutOfRange) ct_OutOfRange cc_OutOfRange), osl_OutOfRange⟩)
    (ci_OutOfRange : PySem.W.codeIn K (.ref cda_OutOfRange) "OutOfRange.__init__" = true)
    (lc_OutOfRange : K.lookup cda_OutOfRange = some ⟨ccl_OutOfRange, cdd_OutOfRange, .fields vs_OutOfRange, ccs_OutOfRange⟩)
    (v2_OutOfRange : vs_OutOfRange[2]? = some (.str fl_OutOfRange tf_OutOfRange))
    (fl_OutOfRange_ : ((P.main.file : Str) == fl_OutOfRange) = true)
    (ll_OutOfRange : K.lookup cc_OutOfRange = some ⟨cl_OutOfRange, cld_OutOfRange, .cell (some (.ref C_OutOfRange)), csl_OutOfRange⟩)
    (kC_OutOfRange : PySem.W.keepIn K (.ref C_OutOfRange) = true)
    (eC_OutOfRange : PySem.W.subIn K (.ref C_OutOfRange) (.type "BaseException") = some true)
    (tC_OutOfRange : PySem.W.typeIn K (.ref C_OutOfRange) = some (.type "type"))
    (hC_OutOfRange : PySem.W.hasDictIn K C_OutOfRange = true)
    (mC_OutOfRange : PySem.W.mroIn K C_OutOfRange (.ref C_OutOfRange) = some true)
    (su_OutOfRange : PySem.W.ks_superIn K C_OutOfRange C_OutOfRange "__init__" = some (some (.builtin "ValueError.__init__")))
    (ve_OutOfRange : PySem.W.subIn K (.ref C_OutOfRange) (.type "ValueError") = some true)
    (xL_NotOrder : K.lookup C_NotOrder = some (excClassObj nm_NotOrder q_NotOrder C_NotOrder N_NotOrder bs_NotOrder bm_NotOrder true sn_NotOrder sub_NotOrder ab_NotOrder col_NotOrder dd_NotOrder m0_NotOrder m1_NotOrder m2_NotOrder m3_NotOrder m5_NotOrder "ValueError.__new__"))
    (rv_NotOrder : PySem.HandSPX.refsVE bm_NotOrder = true)
    (sa_NotOrder : PySem.W.findIn K (.ref C_NotOrder) "__setattr__" = some (some (.builtin "object.__setattr__")))
    (ga_NotOrder : PySem.W.findIn K (.ref C_NotOrder) "__getattribute__" = some (some (.builtin "BaseException.__getattribute__")))
    (gg_NotOrder : PySem.W.findIn K (.ref C_NotOrder) "__getattr__" = some none)
    (nl_NotOrder : PySem.W.findIn K (.ref C_NotOrder) "label" = some none)
    (ai_NotOrder : PySem.W.findIn K (.ref C_NotOrder) "__init__" = some (some (.ref I_NotOrder)))
    (ti_NotOrder : PySem.W.typeIn K (.ref I_NotOrder) = some (.type "function"))
    (li_NotOrder : K.lookup I_NotOrder = some ⟨oc_NotOrder, od_NotOrder, .func (PySem.W.ksFn "__init__" "NotOrder.__init__" (defArgs i_NotOrder) (defBody i_NotOrder) (defScope i_NotOrder) .none kV_NotOrder dc_NotOrder pm_NotOrder an_NotOrder (.ref cda_NotOrder) ct_NotOrder cc_NotOrder), osl_NotOrder⟩)
    (ci_NotOrder : PySem.W.codeIn K (.ref cda_NotOrder) "NotOrder.__init__" = true)
    (lc_NotOrder : K.lookup cda_NotOrder = some ⟨ccl_NotOrder, cdd_NotOrder, .fields vs_NotOrder, ccs_NotOrder⟩)
    (v2_NotOrder : vs_NotOrder[2]? = some (.str fl_NotOrder tf_NotOrder))
    (fl_NotOrder_ : ((P.main.file : Str) == fl_NotOrder) = true)
    (ll_NotOrder : K.lookup cc_NotOrder = some ⟨cl_NotOrder, cld_NotOrder, .cell (some (.ref C_NotOrder)), csl_NotOrder⟩)
    (kC_NotOrder : PySem.W.keepIn K (.ref C_NotOrder) = true)
    (eC_NotOrder : PySem.W.subIn K (.ref C_NotOrder) (.type "BaseException") = some true)
    (tC_NotOrder : PySem.W.typeIn K (.ref C_NotOrder) = some (.type "type"))
    (hC_NotOrder : PySem.W.hasDictIn K C_NotOrder = true)
    (mC_NotOrder : PySem.W.mroIn K C_NotOrder (.ref C_NotOrder) = some true)
    (su_NotOrder : PySem.W.ks_superIn K C_NotOrder C_NotOrder "__init__" = some (some (.builtin "ValueError.__init__")))
    (ve_NotOrder : PySem.W.subIn K (.ref C_NotOrder) (.type "ValueError") = some true)
    (st : PySem.W.nsIn K cStatics "thirdparty.any" = some none)
    (zsuper : PySem.W.nsIn K mainGlobals "super" = some none)
    (eC_TrickError : PySem.W.subIn K (.ref C_TrickError) (.type "BaseException") = some true)
    (tC_TrickError : PySem.W.typeIn K (.ref C_TrickError) = some (.type "type"))
    (hC_TrickError : PySem.W.hasDictIn K C_TrickError = true)
    (em_OutOfRange_TrickError : PySem.W.subIn K (.ref C_OutOfRange) (.ref C_TrickError) = some true)
    (em_NotOrder_TrickError : PySem.W.subIn K (.ref C_NotOrder) (.ref C_TrickError) = some true)
    (em_OutOfRange_OutOfRange : PySem.W.subIn K (.ref C_OutOfRange) (.ref C_OutOfRange) = some true)
    (em_NotOrder_OutOfRange : PySem.W.subIn K (.ref C_NotOrder) (.ref C_OutOfRange) = some false)
    (em_OutOfRange_NotOrder : PySem.W.subIn K (.ref C_OutOfRange) (.ref C_NotOrder) = some false)
    (em_NotOrder_NotOrder : PySem.W.subIn K (.ref C_NotOrder) (.ref C_NotOrder) = some true)
    (af_check_between : PySem.W.nsIn K mainGlobals "check_between" = some (some (.ref f_check_between)))
    (lf_check_between : K.lookup f_check_between = some ⟨oc_check_between, od_check_between, .func (PySem.W.fnOf "check_between" "check_between" (defArgs s_check_between) (defBody s_check_between) (defScope s_check_between) .none kV_check_between dc_check_between pm_check_between an_check_between cd_check_between ct_check_between), sl_check_between⟩)
    (cf_check_between : PySem.W.codeIn K cd_check_between "check_between" = true)
    (kf_check_between : PySem.W.keepIn K (.ref f_check_between) = true)
    (af_is_order : PySem.W.nsIn K mainGlobals "is_order" = some (some (.ref f_is_order)))
    (lf_is_order : K.lookup f_is_order = some ⟨oc_is_order, od_is_order, .func (PySem.W.fnOf "is_order" "is_order" (defArgs s_is_order) (defBody s_is_order) (defScope s_is_order) .none kV_is_order dc_is_order pm_is_order an_is_order cd_is_order ct_is_order), sl_is_order⟩)
    (cf_is_order : PySem.W.codeIn K cd_is_order "is_order" = true)
    (kf_is_order : PySem.W.keepIn K (.ref f_is_order) = true)
    (af_check_order : PySem.W.nsIn K mainGlobals "check_order" = some (some (.ref f_check_order)))
    (lf_check_order : K.lookup f_check_order = some ⟨oc_check_order, od_check_order, .func (PySem.W.fnOf "check_order" "check_order" (defArgs s_check_order) (defBody s_check_order) (defScope s_check_order) .none kV_check_order dc_check_order pm_check_order an_check_order cd_check_order ct_check_order), sl_check_order⟩)
    (cf_check_order : PySem.W.codeIn K cd_check_order "check_order" = true)
    (kf_check_order : PySem.W.keepIn K (.ref f_check_order) = true)
    (af_backward : PySem.W.nsIn K mainGlobals "backward" = some (some (.ref f_backward)))
    (lf_backward : K.lookup f_backward = some ⟨oc_backward, od_backward, .func (PySem.W.fnOf "backward" "backward" (defArgs s_backward) (defBody s_backward) (defScope s_backward) .none kV_backward dc_backward pm_backward an_backward cd_backward ct_backward), sl_backward⟩)
    (cf_backward : PySem.W.codeIn K cd_backward "backward" = true)
    (kf_backward : PySem.W.keepIn K (.ref f_backward) = true)
    (af_rising_of : PySem.W.nsIn K mainGlobals "rising_of" = some (some (.ref f_rising_of)))
    (lf_rising_of : K.lookup f_rising_of = some ⟨oc_rising_of, od_rising_of, .func (PySem.W.fnOf "rising_of" "rising_of" (defArgs s_rising_of) (defBody s_rising_of) (defScope s_rising_of) .none kV_rising_of dc_rising_of pm_rising_of an_rising_of cd_rising_of ct_rising_of), sl_rising_of⟩)
    (cf_rising_of : PySem.W.codeIn K cd_rising_of "rising_of" = true)
    (kf_rising_of : PySem.W.keepIn K (.ref f_rising_of) = true)
    (af_factorial : PySem.W.nsIn K mainGlobals "factorial" = some (some (.ref f_factorial)))
    (lf_factorial : K.lookup f_factorial = some ⟨oc_factorial, od_factorial, .func (PySem.W.fnOf "factorial" "factorial" (defArgs s_factorial) (defBody s_factorial) (defScope s_factorial) .none kV_factorial dc_factorial pm_factorial an_factorial cd_factorial ct_factorial), sl_factorial⟩)
    (cf_factorial : PySem.W.codeIn K cd_factorial "factorial" = true)
    (kf_factorial : PySem.W.keepIn K (.ref f_factorial) = true)
    (af_order_at : PySem.W.nsIn K mainGlobals "order_at" = some (some (.ref f_order_at)))
    (lf_order_at : K.lookup f_order_at = some ⟨oc_order_at, od_order_at, .func (PySem.W.fnOf "order_at" "order_at" (defArgs s_order_at) (defBody s_order_at) (defScope s_order_at) .none kV_order_at dc_order_at pm_order_at an_order_at cd_order_at ct_order_at), sl_order_at⟩)
    (cf_order_at : PySem.W.codeIn K cd_order_at "order_at" = true)
    (kf_order_at : PySem.W.keepIn K (.ref f_order_at) = true)
    (af_combinations : PySem.W.nsIn K mainGlobals "combinations" = some (some (.ref f_combinations)))
    (lf_combinations : K.lookup f_combinations = some ⟨oc_combinations, od_combinations, .func (PySem.W.fnOf "combinations" "combinations" (defArgs s_combinations) (defBody s_combinations) (defScope s_combinations) .none kV_combinations dc_combinations pm_combinations an_combinations cd_combinations ct_combinations), sl_combinations⟩)
    (cf_combinations : PySem.W.codeIn K cd_combinations "combinations" = true)
    (kf_combinations : PySem.W.keepIn K (.ref f_combinations) = true)
    (af_power_of_two : PySem.W.nsIn K mainGlobals "power_of_two" = some (some (.ref f_power_of_two)))
    (lf_power_of_two : K.lookup f_power_of_two = some ⟨oc_power_of_two, od_power_of_two, .func (PySem.W.fnOf "power_of_two" "power_of_two" (defArgs s_power_of_two) (defBody s_power_of_two) (defScope s_power_of_two) .none kV_power_of_two dc_power_of_two pm_power_of_two an_power_of_two cd_power_of_two ct_power_of_two), sl_power_of_two⟩)
    (cf_power_of_two : PySem.W.codeIn K cd_power_of_two "power_of_two" = true)
    (kf_power_of_two : PySem.W.keepIn K (.ref f_power_of_two) = true)
    (af_is_riffle : PySem.W.nsIn K mainGlobals "is_riffle" = some (some (.ref f_is_riffle)))
    (lf_is_riffle : K.lookup f_is_riffle = some ⟨oc_is_riffle, od_is_riffle, .func (PySem.W.fnOf "is_riffle" "is_riffle" (defArgs s_is_riffle) (defBody s_is_riffle) (defScope s_is_riffle) .none kV_is_riffle dc_is_riffle pm_is_riffle an_is_riffle cd_is_riffle ct_is_riffle), sl_is_riffle⟩)
    (cf_is_riffle : PySem.W.codeIn K cd_is_riffle "is_riffle" = true)
    (kf_is_riffle : PySem.W.keepIn K (.ref f_is_riffle) = true)
    (af_riffles_needed : PySem.W.nsIn K mainGlobals "riffles_needed" = some (some (.ref f_riffles_needed)))
    (lf_riffles_needed : K.lookup f_riffles_needed = some ⟨oc_riffles_needed, od_riffles_needed, .func (PySem.W.fnOf "riffles_needed" "riffles_needed" (defArgs s_riffles_needed) (defBody s_riffles_needed) (defScope s_riffles_needed) .none kV_riffles_needed dc_riffles_needed pm_riffles_needed an_riffles_needed cd_riffles_needed ct_riffles_needed), sl_riffles_needed⟩)
    (cf_riffles_needed : PySem.W.codeIn K cd_riffles_needed "riffles_needed" = true)
    (kf_riffles_needed : PySem.W.keepIn K (.ref f_riffles_needed) = true)
    (af_riffles_of : PySem.W.nsIn K mainGlobals "riffles_of" = some (some (.ref f_riffles_of)))
    (lf_riffles_of : K.lookup f_riffles_of = some ⟨oc_riffles_of, od_riffles_of, .func (PySem.W.fnOf "riffles_of" "riffles_of" (defArgs s_riffles_of) (defBody s_riffles_of) (defScope s_riffles_of) .none kV_riffles_of dc_riffles_of pm_riffles_of an_riffles_of cd_riffles_of ct_riffles_of), sl_riffles_of⟩)
    (cf_riffles_of : PySem.W.codeIn K cd_riffles_of "riffles_of" = true)
    (kf_riffles_of : PySem.W.keepIn K (.ref f_riffles_of) = true)
    (af_count_riffles : PySem.W.nsIn K mainGlobals "count_riffles" = some (some (.ref f_count_riffles)))
    (lf_count_riffles : K.lookup f_count_riffles = some ⟨oc_count_riffles, od_count_riffles, .func (PySem.W.fnOf "count_riffles" "count_riffles" (defArgs s_count_riffles) (defBody s_count_riffles) (defScope s_count_riffles) .none kV_count_riffles dc_count_riffles pm_count_riffles an_count_riffles cd_count_riffles ct_count_riffles), sl_count_riffles⟩)
    (cf_count_riffles : PySem.W.codeIn K cd_count_riffles "count_riffles" = true)
    (kf_count_riffles : PySem.W.keepIn K (.ref f_count_riffles) = true)
    (af_merged_at : PySem.W.nsIn K mainGlobals "merged_at" = some (some (.ref f_merged_at)))
    (lf_merged_at : K.lookup f_merged_at = some ⟨oc_merged_at, od_merged_at, .func (PySem.W.fnOf "merged_at" "merged_at" (defArgs s_merged_at) (defBody s_merged_at) (defScope s_merged_at) .none kV_merged_at dc_merged_at pm_merged_at an_merged_at cd_merged_at ct_merged_at), sl_merged_at⟩)
    (cf_merged_at : PySem.W.codeIn K cd_merged_at "merged_at" = true)
    (kf_merged_at : PySem.W.keepIn K (.ref f_merged_at) = true)
    (af_nth_riffle : PySem.W.nsIn K mainGlobals "nth_riffle" = some (some (.ref f_nth_riffle)))
    (lf_nth_riffle : K.lookup f_nth_riffle = some ⟨oc_nth_riffle, od_nth_riffle, .func (PySem.W.fnOf "nth_riffle" "nth_riffle" (defArgs s_nth_riffle) (defBody s_nth_riffle) (defScope s_nth_riffle) .none kV_nth_riffle dc_nth_riffle pm_nth_riffle an_nth_riffle cd_nth_riffle ct_nth_riffle), sl_nth_riffle⟩)
    (cf_nth_riffle : PySem.W.codeIn K cd_nth_riffle "nth_riffle" = true)
    (kf_nth_riffle : PySem.W.keepIn K (.ref f_nth_riffle) = true)
    (af_is_spread : PySem.W.nsIn K mainGlobals "is_spread" = some (some (.ref f_is_spread)))
    (lf_is_spread : K.lookup f_is_spread = some ⟨oc_is_spread, od_is_spread, .func (PySem.W.fnOf "is_spread" "is_spread" (defArgs s_is_spread) (defBody s_is_spread) (defScope s_is_spread) .none kV_is_spread dc_is_spread pm_is_spread an_is_spread cd_is_spread ct_is_spread), sl_is_spread⟩)
    (cf_is_spread : PySem.W.codeIn K cd_is_spread "is_spread" = true)
    (kf_is_spread : PySem.W.keepIn K (.ref f_is_spread) = true)
    (af_is_gilbreath : PySem.W.nsIn K mainGlobals "is_gilbreath" = some (some (.ref f_is_gilbreath)))
    (lf_is_gilbreath : K.lookup f_is_gilbreath = some ⟨oc_is_gilbreath, od_is_gilbreath, .func (PySem.W.fnOf "is_gilbreath" "is_gilbreath" (defArgs s_is_gilbreath) (defBody s_is_gilbreath) (defScope s_is_gilbreath) .none kV_is_gilbreath dc_is_gilbreath pm_is_gilbreath an_is_gilbreath cd_is_gilbreath ct_is_gilbreath), sl_is_gilbreath⟩)
    (cf_is_gilbreath : PySem.W.codeIn K cd_is_gilbreath "is_gilbreath" = true)
    (kf_is_gilbreath : PySem.W.keepIn K (.ref f_is_gilbreath) = true)
    (af_gilbreaths_of : PySem.W.nsIn K mainGlobals "gilbreaths_of" = some (some (.ref f_gilbreaths_of)))
    (lf_gilbreaths_of : K.lookup f_gilbreaths_of = some ⟨oc_gilbreaths_of, od_gilbreaths_of, .func (PySem.W.fnOf "gilbreaths_of" "gilbreaths_of" (defArgs s_gilbreaths_of) (defBody s_gilbreaths_of) (defScope s_gilbreaths_of) .none kV_gilbreaths_of dc_gilbreaths_of pm_gilbreaths_of an_gilbreaths_of cd_gilbreaths_of ct_gilbreaths_of), sl_gilbreaths_of⟩)
    (cf_gilbreaths_of : PySem.W.codeIn K cd_gilbreaths_of "gilbreaths_of" = true)
    (kf_gilbreaths_of : PySem.W.keepIn K (.ref f_gilbreaths_of) = true)
    (af_count_gilbreath : PySem.W.nsIn K mainGlobals "count_gilbreath" = some (some (.ref f_count_gilbreath)))
    (lf_count_gilbreath : K.lookup f_count_gilbreath = some ⟨oc_count_gilbreath, od_count_gilbreath, .func (PySem.W.fnOf "count_gilbreath" "count_gilbreath" (defArgs s_count_gilbreath) (defBody s_count_gilbreath) (defScope s_count_gilbreath) .none kV_count_gilbreath dc_count_gilbreath pm_count_gilbreath an_count_gilbreath cd_count_gilbreath ct_count_gilbreath), sl_count_gilbreath⟩)
    (cf_count_gilbreath : PySem.W.codeIn K cd_count_gilbreath "count_gilbreath" = true)
    (kf_count_gilbreath : PySem.W.keepIn K (.ref f_count_gilbreath) = true)
    (af_nth_gilbreath : PySem.W.nsIn K mainGlobals "nth_gilbreath" = some (some (.ref f_nth_gilbreath)))
    (lf_nth_gilbreath : K.lookup f_nth_gilbreath = some ⟨oc_nth_gilbreath, od_nth_gilbreath, .func (PySem.W.fnOf "nth_gilbreath" "nth_gilbreath" (defArgs s_nth_gilbreath) (defBody s_nth_gilbreath) (defScope s_nth_gilbreath) .none kV_nth_gilbreath dc_nth_gilbreath pm_nth_gilbreath an_nth_gilbreath cd_nth_gilbreath ct_nth_gilbreath), sl_nth_gilbreath⟩)
    (cf_nth_gilbreath : PySem.W.codeIn K cd_nth_gilbreath "nth_gilbreath" = true)
    (kf_nth_gilbreath : PySem.W.keepIn K (.ref f_nth_gilbreath) = true)
    (af_rank_gilbreath : PySem.W.nsIn K mainGlobals "rank_gilbreath" = some (some (.ref f_rank_gilbreath)))
    (lf_rank_gilbreath : K.lookup f_rank_gilbreath = some ⟨oc_rank_gilbreath, od_rank_gilbreath, .func (PySem.W.fnOf "rank_gilbreath" "rank_gilbreath" (defArgs s_rank_gilbreath) (defBody s_rank_gilbreath) (defScope s_rank_gilbreath) .none kV_rank_gilbreath dc_rank_gilbreath pm_rank_gilbreath an_rank_gilbreath cd_rank_gilbreath ct_rank_gilbreath), sl_rank_gilbreath⟩)
    (cf_rank_gilbreath : PySem.W.codeIn K cd_rank_gilbreath "rank_gilbreath" = true)
    (kf_rank_gilbreath : PySem.W.keepIn K (.ref f_rank_gilbreath) = true)
    (af_gilbreath_cut : PySem.W.nsIn K mainGlobals "gilbreath_cut" = some (some (.ref f_gilbreath_cut)))
    (lf_gilbreath_cut : K.lookup f_gilbreath_cut = some ⟨oc_gilbreath_cut, od_gilbreath_cut, .func (PySem.W.fnOf "gilbreath_cut" "gilbreath_cut" (defArgs s_gilbreath_cut) (defBody s_gilbreath_cut) (defScope s_gilbreath_cut) .none kV_gilbreath_cut dc_gilbreath_cut pm_gilbreath_cut an_gilbreath_cut cd_gilbreath_cut ct_gilbreath_cut), sl_gilbreath_cut⟩)
    (cf_gilbreath_cut : PySem.W.codeIn K cd_gilbreath_cut "gilbreath_cut" = true)
    (kf_gilbreath_cut : PySem.W.keepIn K (.ref f_gilbreath_cut) = true)
    (af_lists_of : PySem.W.nsIn K mainGlobals "lists_of" = some (some (.ref f_lists_of)))
    (lf_lists_of : K.lookup f_lists_of = some ⟨oc_lists_of, od_lists_of, .func (PySem.W.fnOf "lists_of" "lists_of" (defArgs s_lists_of) (defBody s_lists_of) (defScope s_lists_of) .none kV_lists_of dc_lists_of pm_lists_of an_lists_of cd_lists_of ct_lists_of), sl_lists_of⟩)
    (cf_lists_of : PySem.W.codeIn K cd_lists_of "lists_of" = true)
    (kf_lists_of : PySem.W.keepIn K (.ref f_lists_of) = true)
    (af_laid : PySem.W.nsIn K mainGlobals "laid" = some (some (.ref f_laid)))
    (lf_laid : K.lookup f_laid = some ⟨oc_laid, od_laid, .func (PySem.W.fnOf "laid" "laid" (defArgs s_laid) (defBody s_laid) (defScope s_laid) .none kV_laid dc_laid pm_laid an_laid cd_laid ct_laid), sl_laid⟩)
    (cf_laid : PySem.W.codeIn K cd_laid "laid" = true)
    (kf_laid : PySem.W.keepIn K (.ref f_laid) = true)
    (af_made_orders : PySem.W.nsIn K mainGlobals "made_orders" = some (some (.ref f_made_orders)))
    (lf_made_orders : K.lookup f_made_orders = some ⟨oc_made_orders, od_made_orders, .func (PySem.W.fnOf "made_orders" "made_orders" (defArgs s_made_orders) (defBody s_made_orders) (defScope s_made_orders) .none kV_made_orders dc_made_orders pm_made_orders an_made_orders cd_made_orders ct_made_orders), sl_made_orders⟩)
    (cf_made_orders : PySem.W.codeIn K cd_made_orders "made_orders" = true)
    (kf_made_orders : PySem.W.keepIn K (.ref f_made_orders) = true)
    (af_all_orders : PySem.W.nsIn K mainGlobals "all_orders" = some (some (.ref f_all_orders)))
    (lf_all_orders : K.lookup f_all_orders = some ⟨oc_all_orders, od_all_orders, .func (PySem.W.fnOf "all_orders" "all_orders" (defArgs s_all_orders) (defBody s_all_orders) (defScope s_all_orders) .none kV_all_orders dc_all_orders pm_all_orders an_all_orders cd_all_orders ct_all_orders), sl_all_orders⟩)
    (cf_all_orders : PySem.W.codeIn K cd_all_orders "all_orders" = true)
    (kf_all_orders : PySem.W.keepIn K (.ref f_all_orders) = true)
    (af_check_gilbreath : PySem.W.nsIn K mainGlobals "check_gilbreath" = some (some (.ref f_check_gilbreath)))
    (lf_check_gilbreath : K.lookup f_check_gilbreath = some ⟨oc_check_gilbreath, od_check_gilbreath, .func (PySem.W.fnOf "check_gilbreath" "check_gilbreath" (defArgs s_check_gilbreath) (defBody s_check_gilbreath) (defScope s_check_gilbreath) .none kV_check_gilbreath dc_check_gilbreath pm_check_gilbreath an_check_gilbreath cd_check_gilbreath ct_check_gilbreath), sl_check_gilbreath⟩)
    (cf_check_gilbreath : PySem.W.codeIn K cd_check_gilbreath "check_gilbreath" = true)
    (kf_check_gilbreath : PySem.W.keepIn K (.ref f_check_gilbreath) = true)
    (af__law_cell : PySem.W.nsIn K mainGlobals "_law_cell" = some (some (.ref f__law_cell)))
    (lf__law_cell : K.lookup f__law_cell = some ⟨oc__law_cell, od__law_cell, .func (PySem.W.fnOf "_law_cell" "_law_cell" (defArgs s__law_cell) (defBody s__law_cell) (defScope s__law_cell) .none kV__law_cell dc__law_cell pm__law_cell an__law_cell cd__law_cell ct__law_cell), sl__law_cell⟩)
    (cf__law_cell : PySem.W.codeIn K cd__law_cell "_law_cell" = true)
    (kf__law_cell : PySem.W.keepIn K (.ref f__law_cell) = true)
    (af__law_draw : PySem.W.nsIn K mainGlobals "_law_draw" = some (some (.ref f__law_draw)))
    (lf__law_draw : K.lookup f__law_draw = some ⟨oc__law_draw, od__law_draw, .func (PySem.W.fnOf "_law_draw" "_law_draw" (defArgs s__law_draw) (defBody s__law_draw) (defScope s__law_draw) .none kV__law_draw dc__law_draw pm__law_draw an__law_draw cd__law_draw ct__law_draw), sl__law_draw⟩)
    (cf__law_draw : PySem.W.codeIn K cd__law_draw "_law_draw" = true)
    (kf__law_draw : PySem.W.keepIn K (.ref f__law_draw) = true)
    (af__law_of_size : PySem.W.nsIn K mainGlobals "_law_of_size" = some (some (.ref f__law_of_size)))
    (lf__law_of_size : K.lookup f__law_of_size = some ⟨oc__law_of_size, od__law_of_size, .func (PySem.W.fnOf "_law_of_size" "_law_of_size" (defArgs s__law_of_size) (defBody s__law_of_size) (defScope s__law_of_size) .none kV__law_of_size dc__law_of_size pm__law_of_size an__law_of_size cd__law_of_size ct__law_of_size), sl__law_of_size⟩)
    (cf__law_of_size : PySem.W.codeIn K cd__law_of_size "_law_of_size" = true)
    (kf__law_of_size : PySem.W.keepIn K (.ref f__law_of_size) = true)
    (af__law_told : PySem.W.nsIn K mainGlobals "_law_told" = some (some (.ref f__law_told)))
    (lf__law_told : K.lookup f__law_told = some ⟨oc__law_told, od__law_told, .func (PySem.W.fnOf "_law_told" "_law_told" (defArgs s__law_told) (defBody s__law_told) (defScope s__law_told) .none kV__law_told dc__law_told pm__law_told an__law_told cd__law_told ct__law_told), sl__law_told⟩)
    (cf__law_told : PySem.W.codeIn K cd__law_told "_law_told" = true)
    (kf__law_told : PySem.W.keepIn K (.ref f__law_told) = true)
    (af__law_laid : PySem.W.nsIn K mainGlobals "_law_laid" = some (some (.ref f__law_laid)))
    (lf__law_laid : K.lookup f__law_laid = some ⟨oc__law_laid, od__law_laid, .func (PySem.W.fnOf "_law_laid" "_law_laid" (defArgs s__law_laid) (defBody s__law_laid) (defScope s__law_laid) .none kV__law_laid dc__law_laid pm__law_laid an__law_laid cd__law_laid ct__law_laid), sl__law_laid⟩)
    (cf__law_laid : PySem.W.codeIn K cd__law_laid "_law_laid" = true)
    (kf__law_laid : PySem.W.keepIn K (.ref f__law_laid) = true)
    (af__law_all : PySem.W.nsIn K mainGlobals "_law_all" = some (some (.ref f__law_all)))
    (lf__law_all : K.lookup f__law_all = some ⟨oc__law_all, od__law_all, .func (PySem.W.fnOf "_law_all" "_law_all" (defArgs s__law_all) (defBody s__law_all) (defScope s__law_all) .none kV__law_all dc__law_all pm__law_all an__law_all cd__law_all ct__law_all), sl__law_all⟩)
    (cf__law_all : PySem.W.codeIn K cd__law_all "_law_all" = true)
    (kf__law_all : PySem.W.keepIn K (.ref f__law_all) = true)
    (af__law_needed : PySem.W.nsIn K mainGlobals "_law_needed" = some (some (.ref f__law_needed)))
    (lf__law_needed : K.lookup f__law_needed = some ⟨oc__law_needed, od__law_needed, .func (PySem.W.fnOf "_law_needed" "_law_needed" (defArgs s__law_needed) (defBody s__law_needed) (defScope s__law_needed) .none kV__law_needed dc__law_needed pm__law_needed an__law_needed cd__law_needed ct__law_needed), sl__law_needed⟩)
    (cf__law_needed : PySem.W.codeIn K cd__law_needed "_law_needed" = true)
    (kf__law_needed : PySem.W.keepIn K (.ref f__law_needed) = true)
    (af_law : PySem.W.nsIn K mainGlobals "law" = some (some (.ref f_law)))
    (lf_law : K.lookup f_law = some ⟨oc_law, od_law, .func (PySem.W.fnOf "law" "law" (defArgs s_law) (defBody s_law) (defScope s_law) .none kV_law dc_law pm_law an_law cd_law ct_law), sl_law⟩)
    (cf_law : PySem.W.codeIn K cd_law "law" = true)
    (kf_law : PySem.W.keepIn K (.ref f_law) = true)
    (z_abs : PySem.W.nsIn K mainGlobals "abs" = some none)
    (z_bool : PySem.W.nsIn K mainGlobals "bool" = some none)
    (z_int : PySem.W.nsIn K mainGlobals "int" = some none)
    (z_isinstance : PySem.W.nsIn K mainGlobals "isinstance" = some none)
    (z_len : PySem.W.nsIn K mainGlobals "len" = some none)
    (z_list : PySem.W.nsIn K mainGlobals "list" = some none)
    (z_min : PySem.W.nsIn K mainGlobals "min" = some none)
    (z_range : PySem.W.nsIn K mainGlobals "range" = some none)
    (z_sorted : PySem.W.nsIn K mainGlobals "sorted" = some none)
    (z_sum : PySem.W.nsIn K mainGlobals "sum" = some none)
    (z_tuple : PySem.W.nsIn K mainGlobals "tuple" = some none)
    (gc_MOST_CARDS : PySem.W.nsIn K mainGlobals "MOST_CARDS" = some (some u_MOST_CARDS))
    (rc_MOST_CARDS : RelV (.int 200) u_MOST_CARDS)
    (gc_MOST_SPREAD : PySem.W.nsIn K mainGlobals "MOST_SPREAD" = some (some u_MOST_SPREAD))
    (rc_MOST_SPREAD : RelV (.int 7) u_MOST_SPREAD)
    (hlaw : ∀ ns : List Int, ns.length ≤ 63 → F_law [rolD (ns.map PyData.int)] = .ok (.bool true)) :
    ∃ fd : FuncData, (∀ (s : Shared) (v : Value), BindsTo s fd ⟨[v], []⟩ [("script", v)]) ∧ ∀ base : Heap, K.In base → base.Ns mainGlobals mg → FnOk P w K mg base (L2.CX P w) 6 fa fd ["script"] (spL K) := by
  have e := hfa.symm.trans (PySem.W.mg_of X G af_law)
  cases e
  have ox_OutOfRange : OexC K C_OutOfRange := ⟨⟨_, _, _, _, _, _, _, _, _, _, _, _, _, _, _, xL_OutOfRange, rv_OutOfRange⟩, sa_OutOfRange, eC_OutOfRange, tC_OutOfRange, kC_OutOfRange⟩
  have sx_OutOfRange : SupTxt K mg P C_OutOfRange I_OutOfRange "OutOfRange.__init__" (defArgs i_OutOfRange) (defBody i_OutOfRange) (defScope i_OutOfRange) _ "self" := ⟨ox_OutOfRange, ⟨_, _, _, _, _, _, _, _, _, _, _, _, _, _, _, _, _, _, _, rfl, li_OutOfRange, ci_OutOfRange, lc_OutOfRange, v2_OutOfRange, fl_OutOfRange_, ll_OutOfRange⟩, oex_cls ox_OutOfRange, mC_OutOfRange, PySem.W.mg_none_of X G zsuper, st, su_OutOfRange, ve_OutOfRange, hP, ⟨_, rfl, rfl⟩⟩
  have T_OutOfRange : ErrTx K mg P "OutOfRange" ["self", "value"] ["value"] C_OutOfRange I_OutOfRange _ := ⟨ox_OutOfRange, ai_OutOfRange, ti_OutOfRange, PySem.W.mg_of X G aC_OutOfRange, .all (fun us hl => match us, hl with | [_, _], _ => rfl), fun w base => fn_sup (k := 0) sx_OutOfRange si_OutOfRange (spE_len rfl) spE_self (fun _ _ _ => rfl) (fun _ _ _ => ⟨_, rfl⟩) fun cd cc A outer s H vs Q E h => ⟨_, pss_cons (ps_ost (pv 0) pe_str) (pss_one (ps_ost (pv 0) (pv 1))), ost1 ox_OutOfRange nl_OutOfRange nfvalue_OutOfRange _ h⟩, ⟨ga_OutOfRange, gg_OutOfRange, eC_OutOfRange, hC_OutOfRange⟩, fun f hf => by
    simp only [List.mem_cons, List.not_mem_nil, or_false] at hf
    subst hf
    exact nfvalue_OutOfRange
   ⟩
  have ox_NotOrder : OexC K C_NotOrder := ⟨⟨_, _, _, _, _, _, _, _, _, _, _, _, _, _, _, xL_NotOrder, rv_NotOrder⟩, sa_NotOrder, eC_NotOrder, tC_NotOrder, kC_NotOrder⟩
  have sx_NotOrder : SupTxt K mg P C_NotOrder I_NotOrder "NotOrder.__init__" (defArgs i_NotOrder) (defBody i_NotOrder) (defScope i_NotOrder) _ "self" := ⟨ox_NotOrder, ⟨_, _, _, _, _, _, _, _, _, _, _, _, _, _, _, _, _, _, _, rfl, li_NotOrder, ci_NotOrder, lc_NotOrder, v2_NotOrder, fl_NotOrder_, ll_NotOrder⟩, oex_cls ox_NotOrder, mC_NotOrder, PySem.W.mg_none_of X G zsuper, st, su_NotOrder, ve_NotOrder, hP, ⟨_, rfl, rfl⟩⟩
  have T_NotOrder : ErrTx K mg P "NotOrder" ["self"] [] C_NotOrder I_NotOrder _ := ⟨ox_NotOrder, ai_NotOrder, ti_NotOrder, PySem.W.mg_of X G aC_NotOrder, .all (fun us hl => match us, hl with | [_], _ => rfl), fun w base => fn_sup (k := 0) sx_NotOrder si_NotOrder (spE_len rfl) spE_self (fun _ _ _ => rfl) (fun _ _ _ => ⟨_, rfl⟩) fun cd cc A outer s H vs Q E h => ⟨_, pss_one (ps_ost (pv 0) pe_str), ost0 ox_NotOrder nl_NotOrder _ h⟩, ⟨ga_NotOrder, gg_NotOrder, eC_NotOrder, hC_NotOrder⟩, fun f hf => (List.not_mem_nil hf).elim⟩
  have F_check_between := fun_mk (st := s_check_between) lf_check_between cf_check_between kf_check_between
  have b_check_between := F_check_between.binds (ps := ["value", "least", "most"]) fun _ _ _ _ _ _ us hl => match us, hl with | [_, _, _], _ => rfl
  have F_is_order := fun_mk (st := s_is_order) lf_is_order cf_is_order kf_is_order
  have b_is_order := F_is_order.binds (ps := ["order"]) fun _ _ _ _ _ _ us hl => match us, hl with | [_], _ => rfl
  have F_check_order := fun_mk (st := s_check_order) lf_check_order cf_check_order kf_check_order
  have b_check_order := F_check_order.binds (ps := ["order"]) fun _ _ _ _ _ _ us hl => match us, hl with | [_], _ => rfl
  have F_backward := fun_mk (st := s_backward) lf_backward cf_backward kf_backward
  have b_backward := F_backward.binds (ps := ["order"]) fun _ _ _ _ _ _ us hl => match us, hl with | [_], _ => rfl
  have F_rising_of := fun_mk (st := s_rising_of) lf_rising_of cf_rising_of kf_rising_of
  have b_rising_of := F_rising_of.binds (ps := ["order"]) fun _ _ _ _ _ _ us hl => match us, hl with | [_], _ => rfl
  have F_factorial := fun_mk (st := s_factorial) lf_factorial cf_factorial kf_factorial
  have b_factorial := F_factorial.binds (ps := ["n"]) fun _ _ _ _ _ _ us hl => match us, hl with | [_], _ => rfl
  have F_order_at := fun_mk (st := s_order_at) lf_order_at cf_order_at kf_order_at
  have b_order_at := F_order_at.binds (ps := ["cards", "n"]) fun _ _ _ _ _ _ us hl => match us, hl with | [_, _], _ => rfl
  have F_combinations := fun_mk (st := s_combinations) lf_combinations cf_combinations kf_combinations
  have b_combinations := F_combinations.binds (ps := ["n", "k"]) fun _ _ _ _ _ _ us hl => match us, hl with | [_, _], _ => rfl
  have F_power_of_two := fun_mk (st := s_power_of_two) lf_power_of_two cf_power_of_two kf_power_of_two
  have b_power_of_two := F_power_of_two.binds (ps := ["n"]) fun _ _ _ _ _ _ us hl => match us, hl with | [_], _ => rfl
  have F_is_riffle := fun_mk (st := s_is_riffle) lf_is_riffle cf_is_riffle kf_is_riffle
  have b_is_riffle := F_is_riffle.binds (ps := ["order"]) fun _ _ _ _ _ _ us hl => match us, hl with | [_], _ => rfl
  have F_riffles_needed := fun_mk (st := s_riffles_needed) lf_riffles_needed cf_riffles_needed kf_riffles_needed
  have b_riffles_needed := F_riffles_needed.binds (ps := ["order"]) fun _ _ _ _ _ _ us hl => match us, hl with | [_], _ => rfl
  have F_riffles_of := fun_mk (st := s_riffles_of) lf_riffles_of cf_riffles_of kf_riffles_of
  have b_riffles_of := F_riffles_of.binds (ps := ["n"]) fun _ _ _ _ _ _ us hl => match us, hl with | [_], _ => rfl
  have F_count_riffles := fun_mk (st := s_count_riffles) lf_count_riffles cf_count_riffles kf_count_riffles
  have b_count_riffles := F_count_riffles.binds (ps := ["cards"]) fun _ _ _ _ _ _ us hl => match us, hl with | [_], _ => rfl
  have F_merged_at := fun_mk (st := s_merged_at) lf_merged_at cf_merged_at kf_merged_at
  have b_merged_at := F_merged_at.binds (ps := ["upper", "lower", "n"]) fun _ _ _ _ _ _ us hl => match us, hl with | [_, _, _], _ => rfl
  have F_nth_riffle := fun_mk (st := s_nth_riffle) lf_nth_riffle cf_nth_riffle kf_nth_riffle
  have b_nth_riffle := F_nth_riffle.binds (ps := ["cards", "n"]) fun _ _ _ _ _ _ us hl => match us, hl with | [_, _], _ => rfl
  have F_is_spread := fun_mk (st := s_is_spread) lf_is_spread cf_is_spread kf_is_spread
  have b_is_spread := F_is_spread.binds (ps := ["order"]) fun _ _ _ _ _ _ us hl => match us, hl with | [_], _ => rfl
  have F_is_gilbreath := fun_mk (st := s_is_gilbreath) lf_is_gilbreath cf_is_gilbreath kf_is_gilbreath
  have b_is_gilbreath := F_is_gilbreath.binds (ps := ["order"]) fun _ _ _ _ _ _ us hl => match us, hl with | [_], _ => rfl
  have F_gilbreaths_of := fun_mk (st := s_gilbreaths_of) lf_gilbreaths_of cf_gilbreaths_of kf_gilbreaths_of
  have b_gilbreaths_of := F_gilbreaths_of.binds (ps := ["n"]) fun _ _ _ _ _ _ us hl => match us, hl with | [_], _ => rfl
  have F_count_gilbreath := fun_mk (st := s_count_gilbreath) lf_count_gilbreath cf_count_gilbreath kf_count_gilbreath
  have b_count_gilbreath := F_count_gilbreath.binds (ps := ["cards"]) fun _ _ _ _ _ _ us hl => match us, hl with | [_], _ => rfl
  have F_nth_gilbreath := fun_mk (st := s_nth_gilbreath) lf_nth_gilbreath cf_nth_gilbreath kf_nth_gilbreath
  have b_nth_gilbreath := F_nth_gilbreath.binds (ps := ["cards", "n"]) fun _ _ _ _ _ _ us hl => match us, hl with | [_, _], _ => rfl
  have F_rank_gilbreath := fun_mk (st := s_rank_gilbreath) lf_rank_gilbreath cf_rank_gilbreath kf_rank_gilbreath
  have b_rank_gilbreath := F_rank_gilbreath.binds (ps := ["order"]) fun _ _ _ _ _ _ us hl => match us, hl with | [_], _ => rfl
  have F_gilbreath_cut := fun_mk (st := s_gilbreath_cut) lf_gilbreath_cut cf_gilbreath_cut kf_gilbreath_cut
  have b_gilbreath_cut := F_gilbreath_cut.binds (ps := ["order"]) fun _ _ _ _ _ _ us hl => match us, hl with | [_], _ => rfl
  have F_lists_of := fun_mk (st := s_lists_of) lf_lists_of cf_lists_of kf_lists_of
  have b_lists_of := F_lists_of.binds (ps := ["size", "count"]) fun _ _ _ _ _ _ us hl => match us, hl with | [_, _], _ => rfl
  have F_laid := fun_mk (st := s_laid) lf_laid cf_laid kf_laid
  have b_laid := F_laid.binds (ps := ["upper", "lower", "places"]) fun _ _ _ _ _ _ us hl => match us, hl with | [_, _, _], _ => rfl
  have F_made_orders := fun_mk (st := s_made_orders) lf_made_orders cf_made_orders kf_made_orders
  have b_made_orders := F_made_orders.binds (ps := ["n", "way"]) fun _ _ _ _ _ _ us hl => match us, hl with | [_, _], _ => rfl
  have F_all_orders := fun_mk (st := s_all_orders) lf_all_orders cf_all_orders kf_all_orders
  have b_all_orders := F_all_orders.binds (ps := ["n"]) fun _ _ _ _ _ _ us hl => match us, hl with | [_], _ => rfl
  have F_check_gilbreath := fun_mk (st := s_check_gilbreath) lf_check_gilbreath cf_check_gilbreath kf_check_gilbreath
  have b_check_gilbreath := F_check_gilbreath.binds (ps := ["cards"]) fun _ _ _ _ _ _ us hl => match us, hl with | [_], _ => rfl
  have F__law_cell := fun_mk (st := s__law_cell) lf__law_cell cf__law_cell kf__law_cell
  have b__law_cell := F__law_cell.binds (ps := ["script", "k"]) fun _ _ _ _ _ _ us hl => match us, hl with | [_, _], _ => rfl
  have F__law_draw := fun_mk (st := s__law_draw) lf__law_draw cf__law_draw kf__law_draw
  have b__law_draw := F__law_draw.binds (ps := ["cell", "limits"]) fun _ _ _ _ _ _ us hl => match us, hl with | [_, _], _ => rfl
  have F__law_of_size := fun_mk (st := s__law_of_size) lf__law_of_size cf__law_of_size kf__law_of_size
  have b__law_of_size := F__law_of_size.binds (ps := ["cell", "size"]) fun _ _ _ _ _ _ us hl => match us, hl with | [_, _], _ => rfl
  have F__law_told := fun_mk (st := s__law_told) lf__law_told cf__law_told kf__law_told
  have b__law_told := F__law_told.binds (ps := ["way", "a", "b"]) fun _ _ _ _ _ _ us hl => match us, hl with | [_, _, _], _ => rfl
  have F__law_laid := fun_mk (st := s__law_laid) lf__law_laid cf__law_laid kf__law_laid
  have b__law_laid := F__law_laid.binds (ps := ["upper", "lower"]) fun _ _ _ _ _ _ us hl => match us, hl with | [_, _], _ => rfl
  have F__law_all := fun_mk (st := s__law_all) lf__law_all cf__law_all kf__law_all
  have b__law_all := F__law_all.binds (ps := ["size", "turned"]) fun _ _ _ _ _ _ us hl => match us, hl with | [_, _], _ => rfl
  have F__law_needed := fun_mk (st := s__law_needed) lf__law_needed cf__law_needed kf__law_needed
  have b__law_needed := F__law_needed.binds (ps := ["order"]) fun _ _ _ _ _ _ us hl => match us, hl with | [_], _ => rfl
  have F_law := fun_mk (st := s_law) lf_law cf_law kf_law
  have b_law := F_law.binds (ps := ["script"]) fun _ _ _ _ _ _ us hl => match us, hl with | [_], _ => rfl
  let T : TX K mg P w := ⟨_, _, F_check_between, PySem.W.mg_of X G af_check_between, b_check_between,
    _, _, F_is_order, PySem.W.mg_of X G af_is_order, b_is_order,
    _, _, F_check_order, PySem.W.mg_of X G af_check_order, b_check_order,
    _, _, F_backward, PySem.W.mg_of X G af_backward, b_backward,
    _, _, F_rising_of, PySem.W.mg_of X G af_rising_of, b_rising_of,
    _, _, F_factorial, PySem.W.mg_of X G af_factorial, b_factorial,
    _, _, F_order_at, PySem.W.mg_of X G af_order_at, b_order_at,
    _, _, F_combinations, PySem.W.mg_of X G af_combinations, b_combinations,
    _, _, F_power_of_two, PySem.W.mg_of X G af_power_of_two, b_power_of_two,
    _, _, F_is_riffle, PySem.W.mg_of X G af_is_riffle, b_is_riffle,
    _, _, F_riffles_needed, PySem.W.mg_of X G af_riffles_needed, b_riffles_needed,
    _, _, F_riffles_of, PySem.W.mg_of X G af_riffles_of, b_riffles_of,
    _, _, F_count_riffles, PySem.W.mg_of X G af_count_riffles, b_count_riffles,
    _, _, F_merged_at, PySem.W.mg_of X G af_merged_at, b_merged_at,
    _, _, F_nth_riffle, PySem.W.mg_of X G af_nth_riffle, b_nth_riffle,
    _, _, F_is_spread, PySem.W.mg_of X G af_is_spread, b_is_spread,
    _, _, F_is_gilbreath, PySem.W.mg_of X G af_is_gilbreath, b_is_gilbreath,
    _, _, F_gilbreaths_of, PySem.W.mg_of X G af_gilbreaths_of, b_gilbreaths_of,
    _, _, F_count_gilbreath, PySem.W.mg_of X G af_count_gilbreath, b_count_gilbreath,
    _, _, F_nth_gilbreath, PySem.W.mg_of X G af_nth_gilbreath, b_nth_gilbreath,
    _, _, F_rank_gilbreath, PySem.W.mg_of X G af_rank_gilbreath, b_rank_gilbreath,
    _, _, F_gilbreath_cut, PySem.W.mg_of X G af_gilbreath_cut, b_gilbreath_cut,
    _, _, F_lists_of, PySem.W.mg_of X G af_lists_of, b_lists_of,
    _, _, F_laid, PySem.W.mg_of X G af_laid, b_laid,
    _, _, F_made_orders, PySem.W.mg_of X G af_made_orders, b_made_orders,
    _, _, F_all_orders, PySem.W.mg_of X G af_all_orders, b_all_orders,
    _, _, F_check_gilbreath, PySem.W.mg_of X G af_check_gilbreath, b_check_gilbreath,
    _, _, F__law_cell, PySem.W.mg_of X G af__law_cell, b__law_cell,
    _, _, F__law_draw, PySem.W.mg_of X G af__law_draw, b__law_draw,
    _, _, F__law_of_size, PySem.W.mg_of X G af__law_of_size, b__law_of_size,
    _, _, F__law_told, PySem.W.mg_of X G af__law_told, b__law_told,
    _, _, F__law_laid, PySem.W.mg_of X G af__law_laid, b__law_laid,
    _, _, F__law_all, PySem.W.mg_of X G af__law_all, b__law_all,
    _, _, F__law_needed, PySem.W.mg_of X G af__law_needed, b__law_needed,
    _, _, F_law, PySem.W.mg_of X G af_law, b_law,
    C_OutOfRange, I_OutOfRange, _, T_OutOfRange,
    C_NotOrder, I_NotOrder, _, T_NotOrder,
    C_TrickError,
    PySem.W.mg_of X G aC_TrickError, exm_cons (PySem.W.mg_of X G aC_OutOfRange) (PySem.W.exm_ref eC_TrickError hC_TrickError tC_TrickError em_OutOfRange_TrickError) (exm_cons (PySem.W.mg_of X G aC_NotOrder) (PySem.W.exm_ref eC_TrickError hC_TrickError tC_TrickError em_NotOrder_TrickError) (exm_nil)),
    PySem.W.mg_of X G aC_OutOfRange, exm_cons (PySem.W.mg_of X G aC_OutOfRange) (PySem.W.exm_ref eC_OutOfRange hC_OutOfRange tC_OutOfRange em_OutOfRange_OutOfRange) (exm_cons (PySem.W.mg_of X G aC_NotOrder) (PySem.W.exm_ref eC_OutOfRange hC_OutOfRange tC_OutOfRange em_NotOrder_OutOfRange) (exm_nil)),
    PySem.W.mg_of X G aC_NotOrder, exm_cons (PySem.W.mg_of X G aC_OutOfRange) (PySem.W.exm_ref eC_NotOrder hC_NotOrder tC_NotOrder em_OutOfRange_NotOrder) (exm_cons (PySem.W.mg_of X G aC_NotOrder) (PySem.W.exm_ref eC_NotOrder hC_NotOrder tC_NotOrder em_NotOrder_NotOrder) (exm_nil)),
    PySem.W.mg_none_of X G z_abs,
    PySem.W.mg_none_of X G z_bool,
    PySem.W.mg_none_of X G z_int,
    PySem.W.mg_none_of X G z_isinstance,
    PySem.W.mg_none_of X G z_len,
    PySem.W.mg_none_of X G z_list,
    PySem.W.mg_none_of X G z_min,
    PySem.W.mg_none_of X G z_range,
    PySem.W.mg_none_of X G z_sorted,
    PySem.W.mg_none_of X G z_sum,
    PySem.W.mg_none_of X G z_tuple,
    ⟨_, PySem.W.mg_of X G gc_MOST_CARDS, rc_MOST_CARDS⟩,
    ⟨_, PySem.W.mg_of X G gc_MOST_SPREAD, rc_MOST_SPREAD⟩⟩
  exact ⟨PySem.W.fnOf "law" "law" (defArgs s_law) (defBody s_law) (defScope s_law) .none kV_law dc_law pm_law an_law cd_law ct_law, fun s v => .of_eq rfl, fun base _ _ => (ok_law T).imp (law_imp hlaw)⟩
end DL
open PySem PySem.W PyProof.Rows
set_option maxHeartbeats 0 in
theorem PySem.Challenge.cw_trickbook_k11_riffles_holds : PySem.Challenge.rw_trickbook_k11_riffles.Holds := by
  w_on; o_law; k_head; (case hw => w_witness2)
  k_fill
  refine L2.walk_of (l := PySem.Challenge.rw_trickbook_k11_riffles) (n := 63) (k := 6) (x := "script") (CX := fun w => L2.CX PySem.Challenge.pw_trickbook_k11_riffles w) (sp := fun w => DL.spL _) rfl (by decide) rfl ⟨rfl, by decide, by decide⟩ (fun w h Y => PySem.W.kIn_of Y) ?F (fun _ _ a ns hl _ hS => ⟨a, ns, rfl, hl, hS, fun _ => rfl⟩) (fun _ H s e s' => DL.cx_no H s e s')
  case F =>
    intro w mg fa h KX G hmg
    refine' DL.all_mk (by decide +kernel) KX G hmg ?aC_TrickError ?aC_OutOfRange ?aC_NotOrder ?xL_OutOfRange ?rv_OutOfRange ?sa_OutOfRange ?ga_OutOfRange ?gg_OutOfRange ?nl_OutOfRange ?nfvalue_OutOfRange ?ai_OutOfRange ?ti_OutOfRange ?li_OutOfRange ?ci_OutOfRange ?lc_OutOfRange ?v2_OutOfRange ?fl_OutOfRange_ ?ll_OutOfRange ?kC_OutOfRange ?eC_OutOfRange ?tC_OutOfRange ?hC_OutOfRange ?mC_OutOfRange ?su_OutOfRange ?ve_OutOfRange ?xL_NotOrder ?rv_NotOrder ?sa_NotOrder ?ga_NotOrder ?gg_NotOrder ?nl_NotOrder ?ai_NotOrder ?ti_NotOrder ?li_NotOrder ?ci_NotOrder ?lc_NotOrder ?v2_NotOrder ?fl_NotOrder_ ?ll_NotOrder ?kC_NotOrder ?eC_NotOrder ?tC_NotOrder ?hC_NotOrder ?mC_NotOrder ?su_NotOrder ?ve_NotOrder ?st ?zsuper ?eC_TrickError ?tC_TrickError ?hC_TrickError ?em_OutOfRange_TrickError ?em_NotOrder_TrickError ?em_OutOfRange_OutOfRange ?em_NotOrder_OutOfRange ?em_OutOfRange_NotOrder ?em_NotOrder_NotOrder ?af_check_between ?lf_check_between ?cf_check_between ?kf_check_between ?af_is_order ?lf_is_order ?cf_is_order ?kf_is_order ?af_check_order ?lf_check_order ?cf_check_order ?kf_check_order ?af_backward ?lf_backward ?cf_backward ?kf_backward ?af_rising_of ?lf_rising_of ?cf_rising_of ?kf_rising_of ?af_factorial ?lf_factorial ?cf_factorial ?kf_factorial ?af_order_at ?lf_order_at ?cf_order_at ?kf_order_at ?af_combinations ?lf_combinations ?cf_combinations ?kf_combinations ?af_power_of_two ?lf_power_of_two ?cf_power_of_two ?kf_power_of_two ?af_is_riffle ?lf_is_riffle ?cf_is_riffle ?kf_is_riffle ?af_riffles_needed ?lf_riffles_needed ?cf_riffles_needed ?kf_riffles_needed ?af_riffles_of ?lf_riffles_of ?cf_riffles_of ?kf_riffles_of ?af_count_riffles ?lf_count_riffles ?cf_count_riffles ?kf_count_riffles ?af_merged_at ?lf_merged_at ?cf_merged_at ?kf_merged_at ?af_nth_riffle ?lf_nth_riffle ?cf_nth_riffle ?kf_nth_riffle ?af_is_spread ?lf_is_spread ?cf_is_spread ?kf_is_spread ?af_is_gilbreath ?lf_is_gilbreath ?cf_is_gilbreath ?kf_is_gilbreath ?af_gilbreaths_of ?lf_gilbreaths_of ?cf_gilbreaths_of ?kf_gilbreaths_of ?af_count_gilbreath ?lf_count_gilbreath ?cf_count_gilbreath ?kf_count_gilbreath ?af_nth_gilbreath ?lf_nth_gilbreath ?cf_nth_gilbreath ?kf_nth_gilbreath ?af_rank_gilbreath ?lf_rank_gilbreath ?cf_rank_gilbreath ?kf_rank_gilbreath ?af_gilbreath_cut ?lf_gilbreath_cut ?cf_gilbreath_cut ?kf_gilbreath_cut ?af_lists_of ?lf_lists_of ?cf_lists_of ?kf_lists_of ?af_laid ?lf_laid ?cf_laid ?kf_laid ?af_made_orders ?lf_made_orders ?cf_made_orders ?kf_made_orders ?af_all_orders ?lf_all_orders ?cf_all_orders ?kf_all_orders ?af_check_gilbreath ?lf_check_gilbreath ?cf_check_gilbreath ?kf_check_gilbreath ?af__law_cell ?lf__law_cell ?cf__law_cell ?kf__law_cell ?af__law_draw ?lf__law_draw ?cf__law_draw ?kf__law_draw ?af__law_of_size ?lf__law_of_size ?cf__law_of_size ?kf__law_of_size ?af__law_told ?lf__law_told ?cf__law_told ?kf__law_told ?af__law_laid ?lf__law_laid ?cf__law_laid ?kf__law_laid ?af__law_all ?lf__law_all ?cf__law_all ?kf__law_all ?af__law_needed ?lf__law_needed ?cf__law_needed ?kf__law_needed ?af_law ?lf_law ?cf_law ?kf_law ?z_abs ?z_bool ?z_int ?z_isinstance ?z_len ?z_list ?z_min ?z_range ?z_sorted ?z_sum ?z_tuple ?gc_MOST_CARDS ?rc_MOST_CARDS ?gc_MOST_SPREAD ?rc_MOST_SPREAD DL.law_plain_k11
    (case aC_TrickError => k_is)
    (case aC_OutOfRange => k_is)
    (case aC_NotOrder => k_is)
    (case xL_OutOfRange => k_is)
    (case rv_OutOfRange => decide +kernel)
    (case sa_OutOfRange => k_is)
    (case ga_OutOfRange => k_is)
    (case gg_OutOfRange => k_is)
    (case nl_OutOfRange => k_is)
    (case nfvalue_OutOfRange => k_is)
    (case ai_OutOfRange => k_is)
    (case ti_OutOfRange => k_is)
    (case li_OutOfRange => k_is)
    (case ci_OutOfRange => k_is)
    (case lc_OutOfRange => k_is)
    (case v2_OutOfRange => rfl)
    (case fl_OutOfRange_ => decide +kernel)
    (case ll_OutOfRange => k_is)
    (case kC_OutOfRange => k_is)
    (case eC_OutOfRange => k_is)
    (case tC_OutOfRange => k_is)
    (case hC_OutOfRange => k_is)
    (case mC_OutOfRange => k_is)
    (case su_OutOfRange => ks_is)
    (case ve_OutOfRange => k_is)
    (case xL_NotOrder => k_is)
    (case rv_NotOrder => decide +kernel)
    (case sa_NotOrder => k_is)
    (case ga_NotOrder => k_is)
    (case gg_NotOrder => k_is)
    (case nl_NotOrder => k_is)
    (case ai_NotOrder => k_is)
    (case ti_NotOrder => k_is)
    (case li_NotOrder => k_is)
    (case ci_NotOrder => k_is)
    (case lc_NotOrder => k_is)
    (case v2_NotOrder => rfl)
    (case fl_NotOrder_ => decide +kernel)
    (case ll_NotOrder => k_is)
    (case kC_NotOrder => k_is)
    (case eC_NotOrder => k_is)
    (case tC_NotOrder => k_is)
    (case hC_NotOrder => k_is)
    (case mC_NotOrder => k_is)
    (case su_NotOrder => ks_is)
    (case ve_NotOrder => k_is)
    (case st => k_is)
    (case zsuper => k_is)
    (case eC_TrickError => k_is)
    (case tC_TrickError => k_is)
    (case hC_TrickError => k_is)
    (case em_OutOfRange_TrickError => first | k_is | rfl)
    (case em_NotOrder_TrickError => first | k_is | rfl)
    (case em_OutOfRange_OutOfRange => first | k_is | rfl)
    (case em_NotOrder_OutOfRange => first | k_is | rfl)
    (case em_OutOfRange_NotOrder => first | k_is | rfl)
    (case em_NotOrder_NotOrder => first | k_is | rfl)
    (case af_check_between => k_is)
    (case lf_check_between => k_is)
    (case cf_check_between => k_is)
    (case kf_check_between => k_is)
    (case af_is_order => k_is)
    (case lf_is_order => k_is)
    (case cf_is_order => k_is)
    (case kf_is_order => k_is)
    (case af_check_order => k_is)
    (case lf_check_order => k_is)
    (case cf_check_order => k_is)
    (case kf_check_order => k_is)
    (case af_backward => k_is)
    (case lf_backward => k_is)
    (case cf_backward => k_is)
    (case kf_backward => k_is)
    (case af_rising_of => k_is)
    (case lf_rising_of => k_is)
    (case cf_rising_of => k_is)
    (case kf_rising_of => k_is)
    (case af_factorial => k_is)
    (case lf_factorial => k_is)
    (case cf_factorial => k_is)
    (case kf_factorial => k_is)
    (case af_order_at => k_is)
    (case lf_order_at => k_is)
    (case cf_order_at => k_is)
    (case kf_order_at => k_is)
    (case af_combinations => k_is)
    (case lf_combinations => k_is)
    (case cf_combinations => k_is)
    (case kf_combinations => k_is)
    (case af_power_of_two => k_is)
    (case lf_power_of_two => k_is)
    (case cf_power_of_two => k_is)
    (case kf_power_of_two => k_is)
    (case af_is_riffle => k_is)
    (case lf_is_riffle => k_is)
    (case cf_is_riffle => k_is)
    (case kf_is_riffle => k_is)
    (case af_riffles_needed => k_is)
    (case lf_riffles_needed => k_is)
    (case cf_riffles_needed => k_is)
    (case kf_riffles_needed => k_is)
    (case af_riffles_of => k_is)
    (case lf_riffles_of => k_is)
    (case cf_riffles_of => k_is)
    (case kf_riffles_of => k_is)
    (case af_count_riffles => k_is)
    (case lf_count_riffles => k_is)
    (case cf_count_riffles => k_is)
    (case kf_count_riffles => k_is)
    (case af_merged_at => k_is)
    (case lf_merged_at => k_is)
    (case cf_merged_at => k_is)
    (case kf_merged_at => k_is)
    (case af_nth_riffle => k_is)
    (case lf_nth_riffle => k_is)
    (case cf_nth_riffle => k_is)
    (case kf_nth_riffle => k_is)
    (case af_is_spread => k_is)
    (case lf_is_spread => k_is)
    (case cf_is_spread => k_is)
    (case kf_is_spread => k_is)
    (case af_is_gilbreath => k_is)
    (case lf_is_gilbreath => k_is)
    (case cf_is_gilbreath => k_is)
    (case kf_is_gilbreath => k_is)
    (case af_gilbreaths_of => k_is)
    (case lf_gilbreaths_of => k_is)
    (case cf_gilbreaths_of => k_is)
    (case kf_gilbreaths_of => k_is)
    (case af_count_gilbreath => k_is)
    (case lf_count_gilbreath => k_is)
    (case cf_count_gilbreath => k_is)
    (case kf_count_gilbreath => k_is)
    (case af_nth_gilbreath => k_is)
    (case lf_nth_gilbreath => k_is)
    (case cf_nth_gilbreath => k_is)
    (case kf_nth_gilbreath => k_is)
    (case af_rank_gilbreath => k_is)
    (case lf_rank_gilbreath => k_is)
    (case cf_rank_gilbreath => k_is)
    (case kf_rank_gilbreath => k_is)
    (case af_gilbreath_cut => k_is)
    (case lf_gilbreath_cut => k_is)
    (case cf_gilbreath_cut => k_is)
    (case kf_gilbreath_cut => k_is)
    (case af_lists_of => k_is)
    (case lf_lists_of => k_is)
    (case cf_lists_of => k_is)
    (case kf_lists_of => k_is)
    (case af_laid => k_is)
    (case lf_laid => k_is)
    (case cf_laid => k_is)
    (case kf_laid => k_is)
    (case af_made_orders => k_is)
    (case lf_made_orders => k_is)
    (case cf_made_orders => k_is)
    (case kf_made_orders => k_is)
    (case af_all_orders => k_is)
    (case lf_all_orders => k_is)
    (case cf_all_orders => k_is)
    (case kf_all_orders => k_is)
    (case af_check_gilbreath => k_is)
    (case lf_check_gilbreath => k_is)
    (case cf_check_gilbreath => k_is)
    (case kf_check_gilbreath => k_is)
    (case af__law_cell => k_is)
    (case lf__law_cell => k_is)
    (case cf__law_cell => k_is)
    (case kf__law_cell => k_is)
    (case af__law_draw => k_is)
    (case lf__law_draw => k_is)
    (case cf__law_draw => k_is)
    (case kf__law_draw => k_is)
    (case af__law_of_size => k_is)
    (case lf__law_of_size => k_is)
    (case cf__law_of_size => k_is)
    (case kf__law_of_size => k_is)
    (case af__law_told => k_is)
    (case lf__law_told => k_is)
    (case cf__law_told => k_is)
    (case kf__law_told => k_is)
    (case af__law_laid => k_is)
    (case lf__law_laid => k_is)
    (case cf__law_laid => k_is)
    (case kf__law_laid => k_is)
    (case af__law_all => k_is)
    (case lf__law_all => k_is)
    (case cf__law_all => k_is)
    (case kf__law_all => k_is)
    (case af__law_needed => k_is)
    (case lf__law_needed => k_is)
    (case cf__law_needed => k_is)
    (case kf__law_needed => k_is)
    (case af_law => k_is)
    (case lf_law => k_is)
    (case cf_law => k_is)
    (case kf_law => k_is)
    (case z_abs => k_is)
    (case z_bool => k_is)
    (case z_int => k_is)
    (case z_isinstance => k_is)
    (case z_len => k_is)
    (case z_list => k_is)
    (case z_min => k_is)
    (case z_range => k_is)
    (case z_sorted => k_is)
    (case z_sum => k_is)
    (case z_tuple => k_is)
    (case gc_MOST_CARDS => k_is)
    (case rc_MOST_CARDS => exact ⟨_, rfl⟩)
    (case gc_MOST_SPREAD => k_is)
    (case rc_MOST_SPREAD => exact ⟨_, rfl⟩)
